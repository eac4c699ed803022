/-
  ClockPrompts: one reckoning by the kernel, with some facts of arithmetic.
-/
import Derived.Test.YthgcmholjlijeaaRows
import Derived.Test.YthgcmholjlijeaaSXb
import Derived.WalkKit
import Derived.ProofKit
import Derived.OpenShut
import Derived.ChangeOld
import Derived.Below
import Derived.KernelRfl
import Derived.Lib.SmallJoins
namespace Go.Proofs.Ythgcmholjlijeaa.clockPrompts
open Go.ChangeShapes Go.WideShapes Go.ChangeAt Go.RowKit
open Go.SX
set_option linter.unusedVariables false
set_option linter.unusedSimpArgs false

theorem own : ownKnob Try.prog.godebug = none := by kernel_rfl
theorem laidOut : laidOutB Try.prog = true := by kernel_rfl
theorem good : progOk Try.prog = true := by kernel_rfl

theorem fact0 (x0 x1 x2 x3 x4 x5 : Int) (r0 : 0 ≤ x0 ∧ x0 < 18446744073709551616) (r1 : 0 ≤ x1 ∧ x1 < 18446744073709551616) (r2 : 0 ≤ x2 ∧ x2 < 18446744073709551616) (r3 : 0 ≤ x3 ∧ x3 < 18446744073709551616) (r4 : 0 ≤ x4 ∧ x4 < 18446744073709551616) (r5 : 0 ≤ x5 ∧ x5 < 18446744073709551616) : E.B ⟨[.int x0, .int x1, .int x2, .int x3, .int x4, .int x5], []⟩ (.imp (.not (.cmp .lss (.var 0) (.int 1))) (.not (.cmp .eql (.var 0) (.int 0)))) = true := by
  simp only [sm_I_int, sm_I_var, sm_I_mn, sm_I_mx, sm_I_add_u64, sm_I_sub_u64, sm_B_bool, sm_B_eql, sm_B_lss, sm_B_not, sm_B_and, sm_B_imp, sm_B_iff, getD_cons_zero, getD_cons_succ, toI_int]
  omega
theorem fact1 (x0 x1 x2 x3 x4 x5 : Int) (r0 : 0 ≤ x0 ∧ x0 < 18446744073709551616) (r1 : 0 ≤ x1 ∧ x1 < 18446744073709551616) (r2 : 0 ≤ x2 ∧ x2 < 18446744073709551616) (r3 : 0 ≤ x3 ∧ x3 < 18446744073709551616) (r4 : 0 ≤ x4 ∧ x4 < 18446744073709551616) (r5 : 0 ≤ x5 ∧ x5 < 18446744073709551616) : E.B ⟨[.int x0, .int x1, .int x2, .int x3, .int x4, .int x5], []⟩ (.imp (.and (.cmp .lss (.var 0) (.ar .sub .u64 (.ar .add .u64 (.var 4) (.mn (.var 5) (.ar .sub .u64 (.int 18446744073709551615) (.var 4)))) (.var 4))) (.not (.cmp .eql (.ar .add .u64 (.ar .add .u64 (.mx (.int 0) (.var 4)) (.mn (.var 0) (.ar .sub .u64 (.int 18446744073709551615) (.mx (.int 0) (.var 4))))) (.mn (.var 1) (.ar .sub .u64 (.int 18446744073709551615) (.ar .add .u64 (.mx (.int 0) (.var 4)) (.mn (.var 0) (.ar .sub .u64 (.int 18446744073709551615) (.mx (.int 0) (.var 4)))))))) (.int 18446744073709551615)))) (.iff (.cmp .eql (.mn (.ar .sub .u64 (.ar .sub .u64 (.ar .add .u64 (.var 4) (.mn (.var 5) (.ar .sub .u64 (.int 18446744073709551615) (.var 4)))) (.var 4)) (.var 0)) (.var 1)) (.var 1)) (.not (.cmp .lss (.ar .add .u64 (.var 4) (.mn (.var 5) (.ar .sub .u64 (.int 18446744073709551615) (.var 4)))) (.ar .add .u64 (.ar .add .u64 (.mx (.int 0) (.var 4)) (.mn (.var 0) (.ar .sub .u64 (.int 18446744073709551615) (.mx (.int 0) (.var 4))))) (.mn (.var 1) (.ar .sub .u64 (.int 18446744073709551615) (.ar .add .u64 (.mx (.int 0) (.var 4)) (.mn (.var 0) (.ar .sub .u64 (.int 18446744073709551615) (.mx (.int 0) (.var 4)))))))))))) = true := by
  simp only [sm_I_int, sm_I_var, sm_I_mn, sm_I_mx, sm_I_add_u64, sm_I_sub_u64, sm_B_bool, sm_B_eql, sm_B_lss, sm_B_not, sm_B_and, sm_B_imp, sm_B_iff, getD_cons_zero, getD_cons_succ, toI_int]
  obtain ⟨y0, e0, q0, h0⟩ := cs_sub (by omega : (0:Int) ≤ 18446744073709551615 ∧ (18446744073709551615:Int) < 18446744073709551616) r4
  try simp only [e0]
  obtain ⟨y1, e1, q1, h1⟩ := cs_min r5 q0
  try simp only [e1]
  obtain ⟨y2, e2, q2, h2⟩ := cs_add r4 q1
  try simp only [e2]
  obtain ⟨y3, e3, q3, h3⟩ := cs_sub q2 r4
  try simp only [e3]
  obtain ⟨y4, e4, q4, h4⟩ := cs_max (by omega : (0:Int) ≤ 0 ∧ (0:Int) < 18446744073709551616) r4
  try simp only [e4]
  obtain ⟨y5, e5, q5, h5⟩ := cs_sub (by omega : (0:Int) ≤ 18446744073709551615 ∧ (18446744073709551615:Int) < 18446744073709551616) q4
  try simp only [e5]
  obtain ⟨y6, e6, q6, h6⟩ := cs_min r0 q5
  try simp only [e6]
  obtain ⟨y7, e7, q7, h7⟩ := cs_add q4 q6
  try simp only [e7]
  obtain ⟨y8, e8, q8, h8⟩ := cs_sub (by omega : (0:Int) ≤ 18446744073709551615 ∧ (18446744073709551615:Int) < 18446744073709551616) q7
  try simp only [e8]
  obtain ⟨y9, e9, q9, h9⟩ := cs_min r1 q8
  try simp only [e9]
  obtain ⟨y10, e10, q10, h10⟩ := cs_add q7 q9
  try simp only [e10]
  obtain ⟨y11, e11, q11, h11⟩ := cs_sub q3 r0
  try simp only [e11]
  obtain ⟨y12, e12, q12, h12⟩ := cs_min q11 r1
  try simp only [e12]
  omega
theorem fact2 (x0 x1 x2 x3 x4 x5 : Int) (r0 : 0 ≤ x0 ∧ x0 < 18446744073709551616) (r1 : 0 ≤ x1 ∧ x1 < 18446744073709551616) (r2 : 0 ≤ x2 ∧ x2 < 18446744073709551616) (r3 : 0 ≤ x3 ∧ x3 < 18446744073709551616) (r4 : 0 ≤ x4 ∧ x4 < 18446744073709551616) (r5 : 0 ≤ x5 ∧ x5 < 18446744073709551616) : E.B ⟨[.int x0, .int x1, .int x2, .int x3, .int x4, .int x5], []⟩ (.imp (.cmp .lss (.var 0) (.ar .sub .u64 (.ar .add .u64 (.var 4) (.mn (.var 5) (.ar .sub .u64 (.int 18446744073709551615) (.var 4)))) (.var 4))) (.cmp .eql (.ar .add .u64 (.int 0) (.mn (.mn (.ar .sub .u64 (.ar .sub .u64 (.mx (.mx (.int 0) (.var 4)) (.ar .add .u64 (.var 4) (.mn (.var 5) (.ar .sub .u64 (.int 18446744073709551615) (.var 4))))) (.mx (.int 0) (.var 4))) (.mn (.ar .sub .u64 (.mx (.mx (.int 0) (.var 4)) (.ar .add .u64 (.var 4) (.mn (.var 5) (.ar .sub .u64 (.int 18446744073709551615) (.var 4))))) (.mx (.int 0) (.var 4))) (.var 0))) (.var 1)) (.int 18446744073709551615))) (.mn (.ar .sub .u64 (.ar .sub .u64 (.ar .add .u64 (.var 4) (.mn (.var 5) (.ar .sub .u64 (.int 18446744073709551615) (.var 4)))) (.var 4)) (.var 0)) (.var 1)))) = true := by
  simp only [sm_I_int, sm_I_var, sm_I_mn, sm_I_mx, sm_I_add_u64, sm_I_sub_u64, sm_B_bool, sm_B_eql, sm_B_lss, sm_B_not, sm_B_and, sm_B_imp, sm_B_iff, getD_cons_zero, getD_cons_succ, toI_int]
  obtain ⟨y0, e0, q0, h0⟩ := cs_sub (by omega : (0:Int) ≤ 18446744073709551615 ∧ (18446744073709551615:Int) < 18446744073709551616) r4
  try simp only [e0]
  obtain ⟨y1, e1, q1, h1⟩ := cs_min r5 q0
  try simp only [e1]
  obtain ⟨y2, e2, q2, h2⟩ := cs_add r4 q1
  try simp only [e2]
  obtain ⟨y3, e3, q3, h3⟩ := cs_sub q2 r4
  try simp only [e3]
  obtain ⟨y4, e4, q4, h4⟩ := cs_max (by omega : (0:Int) ≤ 0 ∧ (0:Int) < 18446744073709551616) r4
  try simp only [e4]
  obtain ⟨y5, e5, q5, h5⟩ := cs_max q4 q2
  try simp only [e5]
  obtain ⟨y6, e6, q6, h6⟩ := cs_sub q5 q4
  try simp only [e6]
  obtain ⟨y7, e7, q7, h7⟩ := cs_min q6 r0
  try simp only [e7]
  obtain ⟨y8, e8, q8, h8⟩ := cs_sub q6 q7
  try simp only [e8]
  obtain ⟨y9, e9, q9, h9⟩ := cs_min q8 r1
  try simp only [e9]
  obtain ⟨y10, e10, q10, h10⟩ := cs_min q9 (by omega : (0:Int) ≤ 18446744073709551615 ∧ (18446744073709551615:Int) < 18446744073709551616)
  try simp only [e10]
  obtain ⟨y11, e11, q11, h11⟩ := cs_add (by omega : (0:Int) ≤ 0 ∧ (0:Int) < 18446744073709551616) q10
  try simp only [e11]
  obtain ⟨y12, e12, q12, h12⟩ := cs_sub q3 r0
  try simp only [e12]
  obtain ⟨y13, e13, q13, h13⟩ := cs_min q12 r1
  try simp only [e13]
  omega
theorem fact3 (x0 x1 x2 x3 x4 x5 : Int) (r0 : 0 ≤ x0 ∧ x0 < 18446744073709551616) (r1 : 0 ≤ x1 ∧ x1 < 18446744073709551616) (r2 : 0 ≤ x2 ∧ x2 < 18446744073709551616) (r3 : 0 ≤ x3 ∧ x3 < 18446744073709551616) (r4 : 0 ≤ x4 ∧ x4 < 18446744073709551616) (r5 : 0 ≤ x5 ∧ x5 < 18446744073709551616) : E.B ⟨[.int x0, .int x1, .int x2, .int x3, .int x4, .int x5], []⟩ (.cmp .eql (.ar .add .u64 (.int 0) (.mn (.mn (.ar .sub .u64 (.mx (.mx (.int 0) (.var 4)) (.ar .add .u64 (.var 4) (.mn (.var 5) (.ar .sub .u64 (.int 18446744073709551615) (.var 4))))) (.mx (.int 0) (.var 4))) (.var 0)) (.int 18446744073709551615))) (.mn (.ar .sub .u64 (.ar .add .u64 (.var 4) (.mn (.var 5) (.ar .sub .u64 (.int 18446744073709551615) (.var 4)))) (.var 4)) (.var 0))) = true := by
  simp only [sm_I_int, sm_I_var, sm_I_mn, sm_I_mx, sm_I_add_u64, sm_I_sub_u64, sm_B_bool, sm_B_eql, sm_B_lss, sm_B_not, sm_B_and, sm_B_imp, sm_B_iff, getD_cons_zero, getD_cons_succ, toI_int]
  obtain ⟨y0, e0, q0, h0⟩ := cs_max (by omega : (0:Int) ≤ 0 ∧ (0:Int) < 18446744073709551616) r4
  try simp only [e0]
  obtain ⟨y1, e1, q1, h1⟩ := cs_sub (by omega : (0:Int) ≤ 18446744073709551615 ∧ (18446744073709551615:Int) < 18446744073709551616) r4
  try simp only [e1]
  obtain ⟨y2, e2, q2, h2⟩ := cs_min r5 q1
  try simp only [e2]
  obtain ⟨y3, e3, q3, h3⟩ := cs_add r4 q2
  try simp only [e3]
  obtain ⟨y4, e4, q4, h4⟩ := cs_max q0 q3
  try simp only [e4]
  obtain ⟨y5, e5, q5, h5⟩ := cs_sub q4 q0
  try simp only [e5]
  obtain ⟨y6, e6, q6, h6⟩ := cs_min q5 r0
  try simp only [e6]
  obtain ⟨y7, e7, q7, h7⟩ := cs_min q6 (by omega : (0:Int) ≤ 18446744073709551615 ∧ (18446744073709551615:Int) < 18446744073709551616)
  try simp only [e7]
  obtain ⟨y8, e8, q8, h8⟩ := cs_add (by omega : (0:Int) ≤ 0 ∧ (0:Int) < 18446744073709551616) q7
  try simp only [e8]
  obtain ⟨y9, e9, q9, h9⟩ := cs_sub q3 r4
  try simp only [e9]
  obtain ⟨y10, e10, q10, h10⟩ := cs_min q9 r0
  try simp only [e10]
  omega
theorem fact4 (x0 x1 x2 x3 x4 x5 : Int) (r0 : 0 ≤ x0 ∧ x0 < 18446744073709551616) (r1 : 0 ≤ x1 ∧ x1 < 18446744073709551616) (r2 : 0 ≤ x2 ∧ x2 < 18446744073709551616) (r3 : 0 ≤ x3 ∧ x3 < 18446744073709551616) (r4 : 0 ≤ x4 ∧ x4 < 18446744073709551616) (r5 : 0 ≤ x5 ∧ x5 < 18446744073709551616) : E.B ⟨[.int x0, .int x1, .int x2, .int x3, .int x4, .int x5], []⟩ (.imp (.cmp .lss (.var 0) (.ar .sub .u64 (.ar .add .u64 (.var 4) (.mn (.var 5) (.ar .sub .u64 (.int 18446744073709551615) (.var 4)))) (.var 4))) (.cmp .eql (.mn (.ar .sub .u64 (.ar .sub .u64 (.mx (.mx (.int 0) (.var 4)) (.ar .add .u64 (.var 4) (.mn (.var 5) (.ar .sub .u64 (.int 18446744073709551615) (.var 4))))) (.mx (.int 0) (.var 4))) (.mn (.ar .sub .u64 (.mx (.mx (.int 0) (.var 4)) (.ar .add .u64 (.var 4) (.mn (.var 5) (.ar .sub .u64 (.int 18446744073709551615) (.var 4))))) (.mx (.int 0) (.var 4))) (.var 0))) (.var 1)) (.mn (.ar .sub .u64 (.ar .sub .u64 (.ar .add .u64 (.var 4) (.mn (.var 5) (.ar .sub .u64 (.int 18446744073709551615) (.var 4)))) (.var 4)) (.var 0)) (.var 1)))) = true := by
  simp only [sm_I_int, sm_I_var, sm_I_mn, sm_I_mx, sm_I_add_u64, sm_I_sub_u64, sm_B_bool, sm_B_eql, sm_B_lss, sm_B_not, sm_B_and, sm_B_imp, sm_B_iff, getD_cons_zero, getD_cons_succ, toI_int]
  obtain ⟨y0, e0, q0, h0⟩ := cs_sub (by omega : (0:Int) ≤ 18446744073709551615 ∧ (18446744073709551615:Int) < 18446744073709551616) r4
  try simp only [e0]
  obtain ⟨y1, e1, q1, h1⟩ := cs_min r5 q0
  try simp only [e1]
  obtain ⟨y2, e2, q2, h2⟩ := cs_add r4 q1
  try simp only [e2]
  obtain ⟨y3, e3, q3, h3⟩ := cs_sub q2 r4
  try simp only [e3]
  obtain ⟨y4, e4, q4, h4⟩ := cs_max (by omega : (0:Int) ≤ 0 ∧ (0:Int) < 18446744073709551616) r4
  try simp only [e4]
  obtain ⟨y5, e5, q5, h5⟩ := cs_max q4 q2
  try simp only [e5]
  obtain ⟨y6, e6, q6, h6⟩ := cs_sub q5 q4
  try simp only [e6]
  obtain ⟨y7, e7, q7, h7⟩ := cs_min q6 r0
  try simp only [e7]
  obtain ⟨y8, e8, q8, h8⟩ := cs_sub q6 q7
  try simp only [e8]
  obtain ⟨y9, e9, q9, h9⟩ := cs_min q8 r1
  try simp only [e9]
  obtain ⟨y10, e10, q10, h10⟩ := cs_sub q3 r0
  try simp only [e10]
  obtain ⟨y11, e11, q11, h11⟩ := cs_min q10 r1
  try simp only [e11]
  omega
theorem fact5 (x0 x1 x2 x3 x4 x5 : Int) (r0 : 0 ≤ x0 ∧ x0 < 18446744073709551616) (r1 : 0 ≤ x1 ∧ x1 < 18446744073709551616) (r2 : 0 ≤ x2 ∧ x2 < 18446744073709551616) (r3 : 0 ≤ x3 ∧ x3 < 18446744073709551616) (r4 : 0 ≤ x4 ∧ x4 < 18446744073709551616) (r5 : 0 ≤ x5 ∧ x5 < 18446744073709551616) : E.B ⟨[.int x0, .int x1, .int x2, .int x3, .int x4, .int x5], []⟩ (.cmp .eql (.mn (.ar .sub .u64 (.mx (.mx (.int 0) (.var 4)) (.ar .add .u64 (.var 4) (.mn (.var 5) (.ar .sub .u64 (.int 18446744073709551615) (.var 4))))) (.mx (.int 0) (.var 4))) (.var 0)) (.mn (.ar .sub .u64 (.ar .add .u64 (.var 4) (.mn (.var 5) (.ar .sub .u64 (.int 18446744073709551615) (.var 4)))) (.var 4)) (.var 0))) = true := by
  simp only [sm_I_int, sm_I_var, sm_I_mn, sm_I_mx, sm_I_add_u64, sm_I_sub_u64, sm_B_bool, sm_B_eql, sm_B_lss, sm_B_not, sm_B_and, sm_B_imp, sm_B_iff, getD_cons_zero, getD_cons_succ, toI_int]
  obtain ⟨y0, e0, q0, h0⟩ := cs_max (by omega : (0:Int) ≤ 0 ∧ (0:Int) < 18446744073709551616) r4
  try simp only [e0]
  obtain ⟨y1, e1, q1, h1⟩ := cs_sub (by omega : (0:Int) ≤ 18446744073709551615 ∧ (18446744073709551615:Int) < 18446744073709551616) r4
  try simp only [e1]
  obtain ⟨y2, e2, q2, h2⟩ := cs_min r5 q1
  try simp only [e2]
  obtain ⟨y3, e3, q3, h3⟩ := cs_add r4 q2
  try simp only [e3]
  obtain ⟨y4, e4, q4, h4⟩ := cs_max q0 q3
  try simp only [e4]
  obtain ⟨y5, e5, q5, h5⟩ := cs_sub q4 q0
  try simp only [e5]
  obtain ⟨y6, e6, q6, h6⟩ := cs_min q5 r0
  try simp only [e6]
  obtain ⟨y7, e7, q7, h7⟩ := cs_sub q3 r4
  try simp only [e7]
  obtain ⟨y8, e8, q8, h8⟩ := cs_min q7 r0
  try simp only [e8]
  omega
theorem fact6 (x0 x1 x2 x3 x4 x5 : Int) (r0 : 0 ≤ x0 ∧ x0 < 18446744073709551616) (r1 : 0 ≤ x1 ∧ x1 < 18446744073709551616) (r2 : 0 ≤ x2 ∧ x2 < 18446744073709551616) (r3 : 0 ≤ x3 ∧ x3 < 18446744073709551616) (r4 : 0 ≤ x4 ∧ x4 < 18446744073709551616) (r5 : 0 ≤ x5 ∧ x5 < 18446744073709551616) : E.B ⟨[.int x0, .int x1, .int x2, .int x3, .int x4, .int x5], []⟩ (.imp (.cmp .lss (.var 0) (.ar .sub .u64 (.ar .add .u64 (.var 4) (.mn (.var 5) (.ar .sub .u64 (.int 18446744073709551615) (.var 4)))) (.var 4))) (.cmp .eql (.mn (.ar .sub .u64 (.ar .add .u64 (.var 4) (.mn (.var 5) (.ar .sub .u64 (.int 18446744073709551615) (.var 4)))) (.var 4)) (.var 0)) (.var 0))) = true := by
  simp only [sm_I_int, sm_I_var, sm_I_mn, sm_I_mx, sm_I_add_u64, sm_I_sub_u64, sm_B_bool, sm_B_eql, sm_B_lss, sm_B_not, sm_B_and, sm_B_imp, sm_B_iff, getD_cons_zero, getD_cons_succ, toI_int]
  obtain ⟨y0, e0, q0, h0⟩ := cs_sub (by omega : (0:Int) ≤ 18446744073709551615 ∧ (18446744073709551615:Int) < 18446744073709551616) r4
  try simp only [e0]
  obtain ⟨y1, e1, q1, h1⟩ := cs_min r5 q0
  try simp only [e1]
  obtain ⟨y2, e2, q2, h2⟩ := cs_add r4 q1
  try simp only [e2]
  obtain ⟨y3, e3, q3, h3⟩ := cs_sub q2 r4
  try simp only [e3]
  obtain ⟨y4, e4, q4, h4⟩ := cs_min q3 r0
  try simp only [e4]
  omega
theorem fact7 (x0 x1 x2 x3 x4 x5 : Int) (r0 : 0 ≤ x0 ∧ x0 < 18446744073709551616) (r1 : 0 ≤ x1 ∧ x1 < 18446744073709551616) (r2 : 0 ≤ x2 ∧ x2 < 18446744073709551616) (r3 : 0 ≤ x3 ∧ x3 < 18446744073709551616) (r4 : 0 ≤ x4 ∧ x4 < 18446744073709551616) (r5 : 0 ≤ x5 ∧ x5 < 18446744073709551616) : E.B ⟨[.int x0, .int x1, .int x2, .int x3, .int x4, .int x5], []⟩ (.cmp .eql (.ar .sub .u64 (.var 1) (.int 0)) (.var 1)) = true := by
  simp only [sm_I_int, sm_I_var, sm_I_mn, sm_I_mx, sm_I_add_u64, sm_I_sub_u64, sm_B_bool, sm_B_eql, sm_B_lss, sm_B_not, sm_B_and, sm_B_imp, sm_B_iff, getD_cons_zero, getD_cons_succ, toI_int]
  obtain ⟨y0, e0, q0, h0⟩ := cs_sub r1 (by omega : (0:Int) ≤ 0 ∧ (0:Int) < 18446744073709551616)
  try simp only [e0]
  omega
theorem fact8 (x0 x1 x2 x3 x4 x5 : Int) (r0 : 0 ≤ x0 ∧ x0 < 18446744073709551616) (r1 : 0 ≤ x1 ∧ x1 < 18446744073709551616) (r2 : 0 ≤ x2 ∧ x2 < 18446744073709551616) (r3 : 0 ≤ x3 ∧ x3 < 18446744073709551616) (r4 : 0 ≤ x4 ∧ x4 < 18446744073709551616) (r5 : 0 ≤ x5 ∧ x5 < 18446744073709551616) : E.B ⟨[.int x0, .int x1, .int x2, .int x3, .int x4, .int x5], []⟩ (.cmp .eql (.ar .sub .u64 (.var 0) (.int 0)) (.var 0)) = true := by
  simp only [sm_I_int, sm_I_var, sm_I_mn, sm_I_mx, sm_I_add_u64, sm_I_sub_u64, sm_B_bool, sm_B_eql, sm_B_lss, sm_B_not, sm_B_and, sm_B_imp, sm_B_iff, getD_cons_zero, getD_cons_succ, toI_int]
  obtain ⟨y0, e0, q0, h0⟩ := cs_sub r0 (by omega : (0:Int) ≤ 0 ∧ (0:Int) < 18446744073709551616)
  try simp only [e0]
  omega
theorem fact9 (x0 x1 x2 x3 x4 x5 : Int) (r0 : 0 ≤ x0 ∧ x0 < 18446744073709551616) (r1 : 0 ≤ x1 ∧ x1 < 18446744073709551616) (r2 : 0 ≤ x2 ∧ x2 < 18446744073709551616) (r3 : 0 ≤ x3 ∧ x3 < 18446744073709551616) (r4 : 0 ≤ x4 ∧ x4 < 18446744073709551616) (r5 : 0 ≤ x5 ∧ x5 < 18446744073709551616) : E.B ⟨[.int x0, .int x1, .int x2, .int x3, .int x4, .int x5], []⟩ (.imp (.cmp .lss (.var 0) (.ar .sub .u64 (.ar .add .u64 (.var 4) (.mn (.var 5) (.ar .sub .u64 (.int 18446744073709551615) (.var 4)))) (.var 4))) (.cmp .eql (.ar .sub .u64 (.var 1) (.mn (.ar .sub .u64 (.ar .sub .u64 (.mx (.mx (.int 0) (.var 4)) (.ar .add .u64 (.var 4) (.mn (.var 5) (.ar .sub .u64 (.int 18446744073709551615) (.var 4))))) (.mx (.int 0) (.var 4))) (.mn (.ar .sub .u64 (.mx (.mx (.int 0) (.var 4)) (.ar .add .u64 (.var 4) (.mn (.var 5) (.ar .sub .u64 (.int 18446744073709551615) (.var 4))))) (.mx (.int 0) (.var 4))) (.var 0))) (.var 1))) (.ar .sub .u64 (.var 1) (.mn (.ar .sub .u64 (.ar .sub .u64 (.ar .add .u64 (.var 4) (.mn (.var 5) (.ar .sub .u64 (.int 18446744073709551615) (.var 4)))) (.var 4)) (.var 0)) (.var 1))))) = true := by
  simp only [sm_I_int, sm_I_var, sm_I_mn, sm_I_mx, sm_I_add_u64, sm_I_sub_u64, sm_B_bool, sm_B_eql, sm_B_lss, sm_B_not, sm_B_and, sm_B_imp, sm_B_iff, getD_cons_zero, getD_cons_succ, toI_int]
  obtain ⟨y0, e0, q0, h0⟩ := cs_sub (by omega : (0:Int) ≤ 18446744073709551615 ∧ (18446744073709551615:Int) < 18446744073709551616) r4
  try simp only [e0]
  obtain ⟨y1, e1, q1, h1⟩ := cs_min r5 q0
  try simp only [e1]
  obtain ⟨y2, e2, q2, h2⟩ := cs_add r4 q1
  try simp only [e2]
  obtain ⟨y3, e3, q3, h3⟩ := cs_sub q2 r4
  try simp only [e3]
  obtain ⟨y4, e4, q4, h4⟩ := cs_max (by omega : (0:Int) ≤ 0 ∧ (0:Int) < 18446744073709551616) r4
  try simp only [e4]
  obtain ⟨y5, e5, q5, h5⟩ := cs_max q4 q2
  try simp only [e5]
  obtain ⟨y6, e6, q6, h6⟩ := cs_sub q5 q4
  try simp only [e6]
  obtain ⟨y7, e7, q7, h7⟩ := cs_min q6 r0
  try simp only [e7]
  obtain ⟨y8, e8, q8, h8⟩ := cs_sub q6 q7
  try simp only [e8]
  obtain ⟨y9, e9, q9, h9⟩ := cs_min q8 r1
  try simp only [e9]
  obtain ⟨y10, e10, q10, h10⟩ := cs_sub r1 q9
  try simp only [e10]
  obtain ⟨y11, e11, q11, h11⟩ := cs_sub q3 r0
  try simp only [e11]
  obtain ⟨y12, e12, q12, h12⟩ := cs_min q11 r1
  try simp only [e12]
  obtain ⟨y13, e13, q13, h13⟩ := cs_sub r1 q12
  try simp only [e13]
  omega
theorem fact10 (x0 x1 x2 x3 x4 x5 : Int) (r0 : 0 ≤ x0 ∧ x0 < 18446744073709551616) (r1 : 0 ≤ x1 ∧ x1 < 18446744073709551616) (r2 : 0 ≤ x2 ∧ x2 < 18446744073709551616) (r3 : 0 ≤ x3 ∧ x3 < 18446744073709551616) (r4 : 0 ≤ x4 ∧ x4 < 18446744073709551616) (r5 : 0 ≤ x5 ∧ x5 < 18446744073709551616) : E.B ⟨[.int x0, .int x1, .int x2, .int x3, .int x4, .int x5], []⟩ (.cmp .eql (.ar .sub .u64 (.var 0) (.mn (.ar .sub .u64 (.mx (.mx (.int 0) (.var 4)) (.ar .add .u64 (.var 4) (.mn (.var 5) (.ar .sub .u64 (.int 18446744073709551615) (.var 4))))) (.mx (.int 0) (.var 4))) (.var 0))) (.ar .sub .u64 (.var 0) (.mn (.ar .sub .u64 (.ar .add .u64 (.var 4) (.mn (.var 5) (.ar .sub .u64 (.int 18446744073709551615) (.var 4)))) (.var 4)) (.var 0)))) = true := by
  simp only [sm_I_int, sm_I_var, sm_I_mn, sm_I_mx, sm_I_add_u64, sm_I_sub_u64, sm_B_bool, sm_B_eql, sm_B_lss, sm_B_not, sm_B_and, sm_B_imp, sm_B_iff, getD_cons_zero, getD_cons_succ, toI_int]
  obtain ⟨y0, e0, q0, h0⟩ := cs_max (by omega : (0:Int) ≤ 0 ∧ (0:Int) < 18446744073709551616) r4
  try simp only [e0]
  obtain ⟨y1, e1, q1, h1⟩ := cs_sub (by omega : (0:Int) ≤ 18446744073709551615 ∧ (18446744073709551615:Int) < 18446744073709551616) r4
  try simp only [e1]
  obtain ⟨y2, e2, q2, h2⟩ := cs_min r5 q1
  try simp only [e2]
  obtain ⟨y3, e3, q3, h3⟩ := cs_add r4 q2
  try simp only [e3]
  obtain ⟨y4, e4, q4, h4⟩ := cs_max q0 q3
  try simp only [e4]
  obtain ⟨y5, e5, q5, h5⟩ := cs_sub q4 q0
  try simp only [e5]
  obtain ⟨y6, e6, q6, h6⟩ := cs_min q5 r0
  try simp only [e6]
  obtain ⟨y7, e7, q7, h7⟩ := cs_sub r0 q6
  try simp only [e7]
  obtain ⟨y8, e8, q8, h8⟩ := cs_sub q3 r4
  try simp only [e8]
  obtain ⟨y9, e9, q9, h9⟩ := cs_min q8 r0
  try simp only [e9]
  obtain ⟨y10, e10, q10, h10⟩ := cs_sub r0 q9
  try simp only [e10]
  omega
theorem fact11 (x0 x1 x2 x3 x4 x5 : Int) (r0 : 0 ≤ x0 ∧ x0 < 18446744073709551616) (r1 : 0 ≤ x1 ∧ x1 < 18446744073709551616) (r2 : 0 ≤ x2 ∧ x2 < 18446744073709551616) (r3 : 0 ≤ x3 ∧ x3 < 18446744073709551616) (r4 : 0 ≤ x4 ∧ x4 < 18446744073709551616) (r5 : 0 ≤ x5 ∧ x5 < 18446744073709551616) : E.B ⟨[.int x0, .int x1, .int x2, .int x3, .int x4, .int x5], []⟩ (.imp (.and (.not (.cmp .lss (.var 0) (.ar .sub .u64 (.ar .add .u64 (.var 4) (.mn (.var 5) (.ar .sub .u64 (.int 18446744073709551615) (.var 4)))) (.var 4)))) (.and (.cmp .eql (.mn (.ar .sub .u64 (.ar .add .u64 (.var 4) (.mn (.var 5) (.ar .sub .u64 (.int 18446744073709551615) (.var 4)))) (.var 4)) (.var 0)) (.var 0)) (.not (.cmp .eql (.ar .add .u64 (.ar .add .u64 (.mx (.int 0) (.var 4)) (.mn (.var 0) (.ar .sub .u64 (.int 18446744073709551615) (.mx (.int 0) (.var 4))))) (.mn (.var 1) (.ar .sub .u64 (.int 18446744073709551615) (.ar .add .u64 (.mx (.int 0) (.var 4)) (.mn (.var 0) (.ar .sub .u64 (.int 18446744073709551615) (.mx (.int 0) (.var 4)))))))) (.int 18446744073709551615))))) (.iff (.cmp .eql (.int 0) (.var 1)) (.not (.cmp .lss (.ar .add .u64 (.var 4) (.mn (.var 5) (.ar .sub .u64 (.int 18446744073709551615) (.var 4)))) (.ar .add .u64 (.ar .add .u64 (.mx (.int 0) (.var 4)) (.mn (.var 0) (.ar .sub .u64 (.int 18446744073709551615) (.mx (.int 0) (.var 4))))) (.mn (.var 1) (.ar .sub .u64 (.int 18446744073709551615) (.ar .add .u64 (.mx (.int 0) (.var 4)) (.mn (.var 0) (.ar .sub .u64 (.int 18446744073709551615) (.mx (.int 0) (.var 4)))))))))))) = true := by
  simp only [sm_I_int, sm_I_var, sm_I_mn, sm_I_mx, sm_I_add_u64, sm_I_sub_u64, sm_B_bool, sm_B_eql, sm_B_lss, sm_B_not, sm_B_and, sm_B_imp, sm_B_iff, getD_cons_zero, getD_cons_succ, toI_int]
  obtain ⟨y0, e0, q0, h0⟩ := cs_sub (by omega : (0:Int) ≤ 18446744073709551615 ∧ (18446744073709551615:Int) < 18446744073709551616) r4
  try simp only [e0]
  obtain ⟨y1, e1, q1, h1⟩ := cs_min r5 q0
  try simp only [e1]
  obtain ⟨y2, e2, q2, h2⟩ := cs_add r4 q1
  try simp only [e2]
  obtain ⟨y3, e3, q3, h3⟩ := cs_sub q2 r4
  try simp only [e3]
  obtain ⟨y4, e4, q4, h4⟩ := cs_min q3 r0
  try simp only [e4]
  obtain ⟨y5, e5, q5, h5⟩ := cs_max (by omega : (0:Int) ≤ 0 ∧ (0:Int) < 18446744073709551616) r4
  try simp only [e5]
  obtain ⟨y6, e6, q6, h6⟩ := cs_sub (by omega : (0:Int) ≤ 18446744073709551615 ∧ (18446744073709551615:Int) < 18446744073709551616) q5
  try simp only [e6]
  obtain ⟨y7, e7, q7, h7⟩ := cs_min r0 q6
  try simp only [e7]
  obtain ⟨y8, e8, q8, h8⟩ := cs_add q5 q7
  try simp only [e8]
  obtain ⟨y9, e9, q9, h9⟩ := cs_sub (by omega : (0:Int) ≤ 18446744073709551615 ∧ (18446744073709551615:Int) < 18446744073709551616) q8
  try simp only [e9]
  obtain ⟨y10, e10, q10, h10⟩ := cs_min r1 q9
  try simp only [e10]
  obtain ⟨y11, e11, q11, h11⟩ := cs_add q8 q10
  try simp only [e11]
  omega
theorem fact12 (x0 x1 x2 x3 x4 x5 : Int) (r0 : 0 ≤ x0 ∧ x0 < 18446744073709551616) (r1 : 0 ≤ x1 ∧ x1 < 18446744073709551616) (r2 : 0 ≤ x2 ∧ x2 < 18446744073709551616) (r3 : 0 ≤ x3 ∧ x3 < 18446744073709551616) (r4 : 0 ≤ x4 ∧ x4 < 18446744073709551616) (r5 : 0 ≤ x5 ∧ x5 < 18446744073709551616) : E.B ⟨[.int x0, .int x1, .int x2, .int x3, .int x4, .int x5], []⟩ (.imp (.not (.cmp .lss (.var 0) (.ar .sub .u64 (.ar .add .u64 (.var 4) (.mn (.var 5) (.ar .sub .u64 (.int 18446744073709551615) (.var 4)))) (.var 4)))) (.cmp .eql (.ar .add .u64 (.int 0) (.mn (.mn (.ar .sub .u64 (.ar .sub .u64 (.mx (.mx (.int 0) (.var 4)) (.ar .add .u64 (.var 4) (.mn (.var 5) (.ar .sub .u64 (.int 18446744073709551615) (.var 4))))) (.mx (.int 0) (.var 4))) (.mn (.ar .sub .u64 (.mx (.mx (.int 0) (.var 4)) (.ar .add .u64 (.var 4) (.mn (.var 5) (.ar .sub .u64 (.int 18446744073709551615) (.var 4))))) (.mx (.int 0) (.var 4))) (.var 0))) (.var 1)) (.int 18446744073709551615))) (.int 0))) = true := by
  simp only [sm_I_int, sm_I_var, sm_I_mn, sm_I_mx, sm_I_add_u64, sm_I_sub_u64, sm_B_bool, sm_B_eql, sm_B_lss, sm_B_not, sm_B_and, sm_B_imp, sm_B_iff, getD_cons_zero, getD_cons_succ, toI_int]
  obtain ⟨y0, e0, q0, h0⟩ := cs_sub (by omega : (0:Int) ≤ 18446744073709551615 ∧ (18446744073709551615:Int) < 18446744073709551616) r4
  try simp only [e0]
  obtain ⟨y1, e1, q1, h1⟩ := cs_min r5 q0
  try simp only [e1]
  obtain ⟨y2, e2, q2, h2⟩ := cs_add r4 q1
  try simp only [e2]
  obtain ⟨y3, e3, q3, h3⟩ := cs_sub q2 r4
  try simp only [e3]
  obtain ⟨y4, e4, q4, h4⟩ := cs_max (by omega : (0:Int) ≤ 0 ∧ (0:Int) < 18446744073709551616) r4
  try simp only [e4]
  obtain ⟨y5, e5, q5, h5⟩ := cs_max q4 q2
  try simp only [e5]
  obtain ⟨y6, e6, q6, h6⟩ := cs_sub q5 q4
  try simp only [e6]
  obtain ⟨y7, e7, q7, h7⟩ := cs_min q6 r0
  try simp only [e7]
  obtain ⟨y8, e8, q8, h8⟩ := cs_sub q6 q7
  try simp only [e8]
  obtain ⟨y9, e9, q9, h9⟩ := cs_min q8 r1
  try simp only [e9]
  obtain ⟨y10, e10, q10, h10⟩ := cs_min q9 (by omega : (0:Int) ≤ 18446744073709551615 ∧ (18446744073709551615:Int) < 18446744073709551616)
  try simp only [e10]
  obtain ⟨y11, e11, q11, h11⟩ := cs_add (by omega : (0:Int) ≤ 0 ∧ (0:Int) < 18446744073709551616) q10
  try simp only [e11]
  omega
theorem fact13 (x0 x1 x2 x3 x4 x5 : Int) (r0 : 0 ≤ x0 ∧ x0 < 18446744073709551616) (r1 : 0 ≤ x1 ∧ x1 < 18446744073709551616) (r2 : 0 ≤ x2 ∧ x2 < 18446744073709551616) (r3 : 0 ≤ x3 ∧ x3 < 18446744073709551616) (r4 : 0 ≤ x4 ∧ x4 < 18446744073709551616) (r5 : 0 ≤ x5 ∧ x5 < 18446744073709551616) : E.B ⟨[.int x0, .int x1, .int x2, .int x3, .int x4, .int x5], []⟩ (.imp (.not (.cmp .lss (.var 0) (.ar .sub .u64 (.ar .add .u64 (.var 4) (.mn (.var 5) (.ar .sub .u64 (.int 18446744073709551615) (.var 4)))) (.var 4)))) (.cmp .eql (.mn (.ar .sub .u64 (.ar .sub .u64 (.mx (.mx (.int 0) (.var 4)) (.ar .add .u64 (.var 4) (.mn (.var 5) (.ar .sub .u64 (.int 18446744073709551615) (.var 4))))) (.mx (.int 0) (.var 4))) (.mn (.ar .sub .u64 (.mx (.mx (.int 0) (.var 4)) (.ar .add .u64 (.var 4) (.mn (.var 5) (.ar .sub .u64 (.int 18446744073709551615) (.var 4))))) (.mx (.int 0) (.var 4))) (.var 0))) (.var 1)) (.int 0))) = true := by
  simp only [sm_I_int, sm_I_var, sm_I_mn, sm_I_mx, sm_I_add_u64, sm_I_sub_u64, sm_B_bool, sm_B_eql, sm_B_lss, sm_B_not, sm_B_and, sm_B_imp, sm_B_iff, getD_cons_zero, getD_cons_succ, toI_int]
  obtain ⟨y0, e0, q0, h0⟩ := cs_sub (by omega : (0:Int) ≤ 18446744073709551615 ∧ (18446744073709551615:Int) < 18446744073709551616) r4
  try simp only [e0]
  obtain ⟨y1, e1, q1, h1⟩ := cs_min r5 q0
  try simp only [e1]
  obtain ⟨y2, e2, q2, h2⟩ := cs_add r4 q1
  try simp only [e2]
  obtain ⟨y3, e3, q3, h3⟩ := cs_sub q2 r4
  try simp only [e3]
  obtain ⟨y4, e4, q4, h4⟩ := cs_max (by omega : (0:Int) ≤ 0 ∧ (0:Int) < 18446744073709551616) r4
  try simp only [e4]
  obtain ⟨y5, e5, q5, h5⟩ := cs_max q4 q2
  try simp only [e5]
  obtain ⟨y6, e6, q6, h6⟩ := cs_sub q5 q4
  try simp only [e6]
  obtain ⟨y7, e7, q7, h7⟩ := cs_min q6 r0
  try simp only [e7]
  obtain ⟨y8, e8, q8, h8⟩ := cs_sub q6 q7
  try simp only [e8]
  obtain ⟨y9, e9, q9, h9⟩ := cs_min q8 r1
  try simp only [e9]
  omega
theorem fact14 (x0 x1 x2 x3 x4 x5 : Int) (r0 : 0 ≤ x0 ∧ x0 < 18446744073709551616) (r1 : 0 ≤ x1 ∧ x1 < 18446744073709551616) (r2 : 0 ≤ x2 ∧ x2 < 18446744073709551616) (r3 : 0 ≤ x3 ∧ x3 < 18446744073709551616) (r4 : 0 ≤ x4 ∧ x4 < 18446744073709551616) (r5 : 0 ≤ x5 ∧ x5 < 18446744073709551616) : E.B ⟨[.int x0, .int x1, .int x2, .int x3, .int x4, .int x5], []⟩ (.imp (.and (.not (.cmp .eql (.mn (.ar .sub .u64 (.ar .add .u64 (.var 4) (.mn (.var 5) (.ar .sub .u64 (.int 18446744073709551615) (.var 4)))) (.var 4)) (.var 0)) (.var 0))) (.not (.cmp .eql (.ar .add .u64 (.ar .add .u64 (.mx (.int 0) (.var 4)) (.mn (.var 0) (.ar .sub .u64 (.int 18446744073709551615) (.mx (.int 0) (.var 4))))) (.mn (.var 1) (.ar .sub .u64 (.int 18446744073709551615) (.ar .add .u64 (.mx (.int 0) (.var 4)) (.mn (.var 0) (.ar .sub .u64 (.int 18446744073709551615) (.mx (.int 0) (.var 4)))))))) (.int 18446744073709551615)))) (.cmp .lss (.ar .add .u64 (.var 4) (.mn (.var 5) (.ar .sub .u64 (.int 18446744073709551615) (.var 4)))) (.ar .add .u64 (.ar .add .u64 (.mx (.int 0) (.var 4)) (.mn (.var 0) (.ar .sub .u64 (.int 18446744073709551615) (.mx (.int 0) (.var 4))))) (.mn (.var 1) (.ar .sub .u64 (.int 18446744073709551615) (.ar .add .u64 (.mx (.int 0) (.var 4)) (.mn (.var 0) (.ar .sub .u64 (.int 18446744073709551615) (.mx (.int 0) (.var 4)))))))))) = true := by
  simp only [sm_I_int, sm_I_var, sm_I_mn, sm_I_mx, sm_I_add_u64, sm_I_sub_u64, sm_B_bool, sm_B_eql, sm_B_lss, sm_B_not, sm_B_and, sm_B_imp, sm_B_iff, getD_cons_zero, getD_cons_succ, toI_int]
  obtain ⟨y0, e0, q0, h0⟩ := cs_sub (by omega : (0:Int) ≤ 18446744073709551615 ∧ (18446744073709551615:Int) < 18446744073709551616) r4
  try simp only [e0]
  obtain ⟨y1, e1, q1, h1⟩ := cs_min r5 q0
  try simp only [e1]
  obtain ⟨y2, e2, q2, h2⟩ := cs_add r4 q1
  try simp only [e2]
  obtain ⟨y3, e3, q3, h3⟩ := cs_sub q2 r4
  try simp only [e3]
  obtain ⟨y4, e4, q4, h4⟩ := cs_min q3 r0
  try simp only [e4]
  obtain ⟨y5, e5, q5, h5⟩ := cs_max (by omega : (0:Int) ≤ 0 ∧ (0:Int) < 18446744073709551616) r4
  try simp only [e5]
  obtain ⟨y6, e6, q6, h6⟩ := cs_sub (by omega : (0:Int) ≤ 18446744073709551615 ∧ (18446744073709551615:Int) < 18446744073709551616) q5
  try simp only [e6]
  obtain ⟨y7, e7, q7, h7⟩ := cs_min r0 q6
  try simp only [e7]
  obtain ⟨y8, e8, q8, h8⟩ := cs_add q5 q7
  try simp only [e8]
  obtain ⟨y9, e9, q9, h9⟩ := cs_sub (by omega : (0:Int) ≤ 18446744073709551615 ∧ (18446744073709551615:Int) < 18446744073709551616) q8
  try simp only [e9]
  obtain ⟨y10, e10, q10, h10⟩ := cs_min r1 q9
  try simp only [e10]
  obtain ⟨y11, e11, q11, h11⟩ := cs_add q8 q10
  try simp only [e11]
  omega
theorem fact15 (x0 x1 x2 x3 x4 x5 : Int) (r0 : 0 ≤ x0 ∧ x0 < 18446744073709551616) (r1 : 0 ≤ x1 ∧ x1 < 18446744073709551616) (r2 : 0 ≤ x2 ∧ x2 < 18446744073709551616) (r3 : 0 ≤ x3 ∧ x3 < 18446744073709551616) (r4 : 0 ≤ x4 ∧ x4 < 18446744073709551616) (r5 : 0 ≤ x5 ∧ x5 < 18446744073709551616) : E.B ⟨[.int x0, .int x1, .int x2, .int x3, .int x4, .int x5], []⟩ (.imp (.not (.cmp .lss (.var 0) (.ar .sub .u64 (.ar .add .u64 (.var 4) (.mn (.var 5) (.ar .sub .u64 (.int 18446744073709551615) (.var 4)))) (.var 4)))) (.cmp .eql (.ar .sub .u64 (.var 1) (.mn (.ar .sub .u64 (.ar .sub .u64 (.mx (.mx (.int 0) (.var 4)) (.ar .add .u64 (.var 4) (.mn (.var 5) (.ar .sub .u64 (.int 18446744073709551615) (.var 4))))) (.mx (.int 0) (.var 4))) (.mn (.ar .sub .u64 (.mx (.mx (.int 0) (.var 4)) (.ar .add .u64 (.var 4) (.mn (.var 5) (.ar .sub .u64 (.int 18446744073709551615) (.var 4))))) (.mx (.int 0) (.var 4))) (.var 0))) (.var 1))) (.ar .sub .u64 (.var 1) (.int 0)))) = true := by
  simp only [sm_I_int, sm_I_var, sm_I_mn, sm_I_mx, sm_I_add_u64, sm_I_sub_u64, sm_B_bool, sm_B_eql, sm_B_lss, sm_B_not, sm_B_and, sm_B_imp, sm_B_iff, getD_cons_zero, getD_cons_succ, toI_int]
  obtain ⟨y0, e0, q0, h0⟩ := cs_sub (by omega : (0:Int) ≤ 18446744073709551615 ∧ (18446744073709551615:Int) < 18446744073709551616) r4
  try simp only [e0]
  obtain ⟨y1, e1, q1, h1⟩ := cs_min r5 q0
  try simp only [e1]
  obtain ⟨y2, e2, q2, h2⟩ := cs_add r4 q1
  try simp only [e2]
  obtain ⟨y3, e3, q3, h3⟩ := cs_sub q2 r4
  try simp only [e3]
  obtain ⟨y4, e4, q4, h4⟩ := cs_max (by omega : (0:Int) ≤ 0 ∧ (0:Int) < 18446744073709551616) r4
  try simp only [e4]
  obtain ⟨y5, e5, q5, h5⟩ := cs_max q4 q2
  try simp only [e5]
  obtain ⟨y6, e6, q6, h6⟩ := cs_sub q5 q4
  try simp only [e6]
  obtain ⟨y7, e7, q7, h7⟩ := cs_min q6 r0
  try simp only [e7]
  obtain ⟨y8, e8, q8, h8⟩ := cs_sub q6 q7
  try simp only [e8]
  obtain ⟨y9, e9, q9, h9⟩ := cs_min q8 r1
  try simp only [e9]
  obtain ⟨y10, e10, q10, h10⟩ := cs_sub r1 q9
  try simp only [e10]
  obtain ⟨y11, e11, q11, h11⟩ := cs_sub r1 (by omega : (0:Int) ≤ 0 ∧ (0:Int) < 18446744073709551616)
  try simp only [e11]
  omega
def facts : List E := [(.imp (.not (.cmp .lss (.var 0) (.int 1))) (.not (.cmp .eql (.var 0) (.int 0)))),
  (.imp (.and (.cmp .lss (.var 0) (.ar .sub .u64 (.ar .add .u64 (.var 4) (.mn (.var 5) (.ar .sub .u64 (.int 18446744073709551615) (.var 4)))) (.var 4))) (.not (.cmp .eql (.ar .add .u64 (.ar .add .u64 (.mx (.int 0) (.var 4)) (.mn (.var 0) (.ar .sub .u64 (.int 18446744073709551615) (.mx (.int 0) (.var 4))))) (.mn (.var 1) (.ar .sub .u64 (.int 18446744073709551615) (.ar .add .u64 (.mx (.int 0) (.var 4)) (.mn (.var 0) (.ar .sub .u64 (.int 18446744073709551615) (.mx (.int 0) (.var 4)))))))) (.int 18446744073709551615)))) (.iff (.cmp .eql (.mn (.ar .sub .u64 (.ar .sub .u64 (.ar .add .u64 (.var 4) (.mn (.var 5) (.ar .sub .u64 (.int 18446744073709551615) (.var 4)))) (.var 4)) (.var 0)) (.var 1)) (.var 1)) (.not (.cmp .lss (.ar .add .u64 (.var 4) (.mn (.var 5) (.ar .sub .u64 (.int 18446744073709551615) (.var 4)))) (.ar .add .u64 (.ar .add .u64 (.mx (.int 0) (.var 4)) (.mn (.var 0) (.ar .sub .u64 (.int 18446744073709551615) (.mx (.int 0) (.var 4))))) (.mn (.var 1) (.ar .sub .u64 (.int 18446744073709551615) (.ar .add .u64 (.mx (.int 0) (.var 4)) (.mn (.var 0) (.ar .sub .u64 (.int 18446744073709551615) (.mx (.int 0) (.var 4)))))))))))),
  (.imp (.cmp .lss (.var 0) (.ar .sub .u64 (.ar .add .u64 (.var 4) (.mn (.var 5) (.ar .sub .u64 (.int 18446744073709551615) (.var 4)))) (.var 4))) (.cmp .eql (.ar .add .u64 (.int 0) (.mn (.mn (.ar .sub .u64 (.ar .sub .u64 (.mx (.mx (.int 0) (.var 4)) (.ar .add .u64 (.var 4) (.mn (.var 5) (.ar .sub .u64 (.int 18446744073709551615) (.var 4))))) (.mx (.int 0) (.var 4))) (.mn (.ar .sub .u64 (.mx (.mx (.int 0) (.var 4)) (.ar .add .u64 (.var 4) (.mn (.var 5) (.ar .sub .u64 (.int 18446744073709551615) (.var 4))))) (.mx (.int 0) (.var 4))) (.var 0))) (.var 1)) (.int 18446744073709551615))) (.mn (.ar .sub .u64 (.ar .sub .u64 (.ar .add .u64 (.var 4) (.mn (.var 5) (.ar .sub .u64 (.int 18446744073709551615) (.var 4)))) (.var 4)) (.var 0)) (.var 1)))),
  (.cmp .eql (.ar .add .u64 (.int 0) (.mn (.mn (.ar .sub .u64 (.mx (.mx (.int 0) (.var 4)) (.ar .add .u64 (.var 4) (.mn (.var 5) (.ar .sub .u64 (.int 18446744073709551615) (.var 4))))) (.mx (.int 0) (.var 4))) (.var 0)) (.int 18446744073709551615))) (.mn (.ar .sub .u64 (.ar .add .u64 (.var 4) (.mn (.var 5) (.ar .sub .u64 (.int 18446744073709551615) (.var 4)))) (.var 4)) (.var 0))),
  (.imp (.cmp .lss (.var 0) (.ar .sub .u64 (.ar .add .u64 (.var 4) (.mn (.var 5) (.ar .sub .u64 (.int 18446744073709551615) (.var 4)))) (.var 4))) (.cmp .eql (.mn (.ar .sub .u64 (.ar .sub .u64 (.mx (.mx (.int 0) (.var 4)) (.ar .add .u64 (.var 4) (.mn (.var 5) (.ar .sub .u64 (.int 18446744073709551615) (.var 4))))) (.mx (.int 0) (.var 4))) (.mn (.ar .sub .u64 (.mx (.mx (.int 0) (.var 4)) (.ar .add .u64 (.var 4) (.mn (.var 5) (.ar .sub .u64 (.int 18446744073709551615) (.var 4))))) (.mx (.int 0) (.var 4))) (.var 0))) (.var 1)) (.mn (.ar .sub .u64 (.ar .sub .u64 (.ar .add .u64 (.var 4) (.mn (.var 5) (.ar .sub .u64 (.int 18446744073709551615) (.var 4)))) (.var 4)) (.var 0)) (.var 1)))),
  (.cmp .eql (.mn (.ar .sub .u64 (.mx (.mx (.int 0) (.var 4)) (.ar .add .u64 (.var 4) (.mn (.var 5) (.ar .sub .u64 (.int 18446744073709551615) (.var 4))))) (.mx (.int 0) (.var 4))) (.var 0)) (.mn (.ar .sub .u64 (.ar .add .u64 (.var 4) (.mn (.var 5) (.ar .sub .u64 (.int 18446744073709551615) (.var 4)))) (.var 4)) (.var 0))),
  (.imp (.cmp .lss (.var 0) (.ar .sub .u64 (.ar .add .u64 (.var 4) (.mn (.var 5) (.ar .sub .u64 (.int 18446744073709551615) (.var 4)))) (.var 4))) (.cmp .eql (.mn (.ar .sub .u64 (.ar .add .u64 (.var 4) (.mn (.var 5) (.ar .sub .u64 (.int 18446744073709551615) (.var 4)))) (.var 4)) (.var 0)) (.var 0))),
  (.cmp .eql (.ar .sub .u64 (.var 1) (.int 0)) (.var 1)),
  (.cmp .eql (.ar .sub .u64 (.var 0) (.int 0)) (.var 0)),
  (.imp (.cmp .lss (.var 0) (.ar .sub .u64 (.ar .add .u64 (.var 4) (.mn (.var 5) (.ar .sub .u64 (.int 18446744073709551615) (.var 4)))) (.var 4))) (.cmp .eql (.ar .sub .u64 (.var 1) (.mn (.ar .sub .u64 (.ar .sub .u64 (.mx (.mx (.int 0) (.var 4)) (.ar .add .u64 (.var 4) (.mn (.var 5) (.ar .sub .u64 (.int 18446744073709551615) (.var 4))))) (.mx (.int 0) (.var 4))) (.mn (.ar .sub .u64 (.mx (.mx (.int 0) (.var 4)) (.ar .add .u64 (.var 4) (.mn (.var 5) (.ar .sub .u64 (.int 18446744073709551615) (.var 4))))) (.mx (.int 0) (.var 4))) (.var 0))) (.var 1))) (.ar .sub .u64 (.var 1) (.mn (.ar .sub .u64 (.ar .sub .u64 (.ar .add .u64 (.var 4) (.mn (.var 5) (.ar .sub .u64 (.int 18446744073709551615) (.var 4)))) (.var 4)) (.var 0)) (.var 1))))),
  (.cmp .eql (.ar .sub .u64 (.var 0) (.mn (.ar .sub .u64 (.mx (.mx (.int 0) (.var 4)) (.ar .add .u64 (.var 4) (.mn (.var 5) (.ar .sub .u64 (.int 18446744073709551615) (.var 4))))) (.mx (.int 0) (.var 4))) (.var 0))) (.ar .sub .u64 (.var 0) (.mn (.ar .sub .u64 (.ar .add .u64 (.var 4) (.mn (.var 5) (.ar .sub .u64 (.int 18446744073709551615) (.var 4)))) (.var 4)) (.var 0)))),
  (.imp (.and (.not (.cmp .lss (.var 0) (.ar .sub .u64 (.ar .add .u64 (.var 4) (.mn (.var 5) (.ar .sub .u64 (.int 18446744073709551615) (.var 4)))) (.var 4)))) (.and (.cmp .eql (.mn (.ar .sub .u64 (.ar .add .u64 (.var 4) (.mn (.var 5) (.ar .sub .u64 (.int 18446744073709551615) (.var 4)))) (.var 4)) (.var 0)) (.var 0)) (.not (.cmp .eql (.ar .add .u64 (.ar .add .u64 (.mx (.int 0) (.var 4)) (.mn (.var 0) (.ar .sub .u64 (.int 18446744073709551615) (.mx (.int 0) (.var 4))))) (.mn (.var 1) (.ar .sub .u64 (.int 18446744073709551615) (.ar .add .u64 (.mx (.int 0) (.var 4)) (.mn (.var 0) (.ar .sub .u64 (.int 18446744073709551615) (.mx (.int 0) (.var 4)))))))) (.int 18446744073709551615))))) (.iff (.cmp .eql (.int 0) (.var 1)) (.not (.cmp .lss (.ar .add .u64 (.var 4) (.mn (.var 5) (.ar .sub .u64 (.int 18446744073709551615) (.var 4)))) (.ar .add .u64 (.ar .add .u64 (.mx (.int 0) (.var 4)) (.mn (.var 0) (.ar .sub .u64 (.int 18446744073709551615) (.mx (.int 0) (.var 4))))) (.mn (.var 1) (.ar .sub .u64 (.int 18446744073709551615) (.ar .add .u64 (.mx (.int 0) (.var 4)) (.mn (.var 0) (.ar .sub .u64 (.int 18446744073709551615) (.mx (.int 0) (.var 4)))))))))))),
  (.imp (.not (.cmp .lss (.var 0) (.ar .sub .u64 (.ar .add .u64 (.var 4) (.mn (.var 5) (.ar .sub .u64 (.int 18446744073709551615) (.var 4)))) (.var 4)))) (.cmp .eql (.ar .add .u64 (.int 0) (.mn (.mn (.ar .sub .u64 (.ar .sub .u64 (.mx (.mx (.int 0) (.var 4)) (.ar .add .u64 (.var 4) (.mn (.var 5) (.ar .sub .u64 (.int 18446744073709551615) (.var 4))))) (.mx (.int 0) (.var 4))) (.mn (.ar .sub .u64 (.mx (.mx (.int 0) (.var 4)) (.ar .add .u64 (.var 4) (.mn (.var 5) (.ar .sub .u64 (.int 18446744073709551615) (.var 4))))) (.mx (.int 0) (.var 4))) (.var 0))) (.var 1)) (.int 18446744073709551615))) (.int 0))),
  (.imp (.not (.cmp .lss (.var 0) (.ar .sub .u64 (.ar .add .u64 (.var 4) (.mn (.var 5) (.ar .sub .u64 (.int 18446744073709551615) (.var 4)))) (.var 4)))) (.cmp .eql (.mn (.ar .sub .u64 (.ar .sub .u64 (.mx (.mx (.int 0) (.var 4)) (.ar .add .u64 (.var 4) (.mn (.var 5) (.ar .sub .u64 (.int 18446744073709551615) (.var 4))))) (.mx (.int 0) (.var 4))) (.mn (.ar .sub .u64 (.mx (.mx (.int 0) (.var 4)) (.ar .add .u64 (.var 4) (.mn (.var 5) (.ar .sub .u64 (.int 18446744073709551615) (.var 4))))) (.mx (.int 0) (.var 4))) (.var 0))) (.var 1)) (.int 0))),
  (.imp (.and (.not (.cmp .eql (.mn (.ar .sub .u64 (.ar .add .u64 (.var 4) (.mn (.var 5) (.ar .sub .u64 (.int 18446744073709551615) (.var 4)))) (.var 4)) (.var 0)) (.var 0))) (.not (.cmp .eql (.ar .add .u64 (.ar .add .u64 (.mx (.int 0) (.var 4)) (.mn (.var 0) (.ar .sub .u64 (.int 18446744073709551615) (.mx (.int 0) (.var 4))))) (.mn (.var 1) (.ar .sub .u64 (.int 18446744073709551615) (.ar .add .u64 (.mx (.int 0) (.var 4)) (.mn (.var 0) (.ar .sub .u64 (.int 18446744073709551615) (.mx (.int 0) (.var 4)))))))) (.int 18446744073709551615)))) (.cmp .lss (.ar .add .u64 (.var 4) (.mn (.var 5) (.ar .sub .u64 (.int 18446744073709551615) (.var 4)))) (.ar .add .u64 (.ar .add .u64 (.mx (.int 0) (.var 4)) (.mn (.var 0) (.ar .sub .u64 (.int 18446744073709551615) (.mx (.int 0) (.var 4))))) (.mn (.var 1) (.ar .sub .u64 (.int 18446744073709551615) (.ar .add .u64 (.mx (.int 0) (.var 4)) (.mn (.var 0) (.ar .sub .u64 (.int 18446744073709551615) (.mx (.int 0) (.var 4)))))))))),
  (.imp (.not (.cmp .lss (.var 0) (.ar .sub .u64 (.ar .add .u64 (.var 4) (.mn (.var 5) (.ar .sub .u64 (.int 18446744073709551615) (.var 4)))) (.var 4)))) (.cmp .eql (.ar .sub .u64 (.var 1) (.mn (.ar .sub .u64 (.ar .sub .u64 (.mx (.mx (.int 0) (.var 4)) (.ar .add .u64 (.var 4) (.mn (.var 5) (.ar .sub .u64 (.int 18446744073709551615) (.var 4))))) (.mx (.int 0) (.var 4))) (.mn (.ar .sub .u64 (.mx (.mx (.int 0) (.var 4)) (.ar .add .u64 (.var 4) (.mn (.var 5) (.ar .sub .u64 (.int 18446744073709551615) (.var 4))))) (.mx (.int 0) (.var 4))) (.var 0))) (.var 1))) (.ar .sub .u64 (.var 1) (.int 0))))]

set_option maxRecDepth 100000 in
theorem reckoned : withTab Try.prog (fun tb => checkAll outTrue (run Try.prog tb 2000 (.call 3 [.agg [.int .u64 (.var 0), .int .u64 (.var 1), .int .u64 (.var 2), .int .u64 (.var 3)], .int .u64 (.var 4), .int .u64 (.var 5)]) .nil (varSt 6 facts) SX.one)) = true := by kernel_rfl

theorem walk {H : Type} (W : World) (base : Nat) (enc : TypeId × Value → H) (v0 : Value) (d0 : DataW H) (p0 : List MemPlace) (v1 : Value) (d1 : DataW H) (p1 : List MemPlace) (v2 : Value) (d2 : DataW H) (p2 : List MemPlace)
    (o0 : Value.okWide Try.prog W .any base 25 v0) (h0 : DataW.Trod enc Try.prog W 0 (fun _ => true) true 25 v0 d0 p0)
    (o1 : Value.okWide Try.prog W .any base 23 v1) (h1 : DataW.Trod enc Try.prog W 0 (fun _ => true) true 23 v1 d1 p1)
    (o2 : Value.okWide Try.prog W .any base 23 v2) (h2 : DataW.Trod enc Try.prog W 0 (fun _ => true) true 23 v2 d2 p2) :
    Calls Try.prog 3 #[v0, v1, v2] W fun e W' => e = .returned (.bool true) ∧ Below W.heap.size W W' := by
  obtain ⟨c0_0, c0_1, c0_2, c0_3, y0_0, y0_1, y0_2, y0_3, n0, rfl, _, _, t0_0, t0_1, t0_2, t0_3⟩ := Joins.open_agg4 Try.underlying25 (by kernel_rfl) (by kernel_rfl) o0 h0
  obtain ⟨x0, z0, _, w0⟩ := DataW.trod_int Try.underlying23 t0_0
  simp only [List.cons.injEq, and_true] at z0
  subst z0
  have r0 := wf_u64 w0
  obtain ⟨x1, z1, _, w1⟩ := DataW.trod_int Try.underlying23 t0_1
  simp only [List.cons.injEq, and_true] at z1
  subst z1
  have r1 := wf_u64 w1
  obtain ⟨x2, z2, _, w2⟩ := DataW.trod_int Try.underlying23 t0_2
  simp only [List.cons.injEq, and_true] at z2
  subst z2
  have r2 := wf_u64 w2
  obtain ⟨x3, z3, _, w3⟩ := DataW.trod_int Try.underlying23 t0_3
  simp only [List.cons.injEq, and_true] at z3
  subst z3
  have r3 := wf_u64 w3
  obtain ⟨x4, rfl, _, _, w4⟩ := open_int Try.underlying23 o1 h1
  have r4 := wf_u64 w4
  obtain ⟨x5, rfl, _, _, w5⟩ := open_int Try.underlying23 o2 h2
  have r5 := wf_u64 w5
  exact true_of_check good (vs := [.int x0, .int x1, .int x2, .int x3, .int x4, .int x5]) (pc := facts) reckoned (pc_cons (fact0 x0 x1 x2 x3 x4 x5 r0 r1 r2 r3 r4 r5) (pc_cons (fact1 x0 x1 x2 x3 x4 x5 r0 r1 r2 r3 r4 r5) (pc_cons (fact2 x0 x1 x2 x3 x4 x5 r0 r1 r2 r3 r4 r5) (pc_cons (fact3 x0 x1 x2 x3 x4 x5 r0 r1 r2 r3 r4 r5) (pc_cons (fact4 x0 x1 x2 x3 x4 x5 r0 r1 r2 r3 r4 r5) (pc_cons (fact5 x0 x1 x2 x3 x4 x5 r0 r1 r2 r3 r4 r5) (pc_cons (fact6 x0 x1 x2 x3 x4 x5 r0 r1 r2 r3 r4 r5) (pc_cons (fact7 x0 x1 x2 x3 x4 x5 r0 r1 r2 r3 r4 r5) (pc_cons (fact8 x0 x1 x2 x3 x4 x5 r0 r1 r2 r3 r4 r5) (pc_cons (fact9 x0 x1 x2 x3 x4 x5 r0 r1 r2 r3 r4 r5) (pc_cons (fact10 x0 x1 x2 x3 x4 x5 r0 r1 r2 r3 r4 r5) (pc_cons (fact11 x0 x1 x2 x3 x4 x5 r0 r1 r2 r3 r4 r5) (pc_cons (fact12 x0 x1 x2 x3 x4 x5 r0 r1 r2 r3 r4 r5) (pc_cons (fact13 x0 x1 x2 x3 x4 x5 r0 r1 r2 r3 r4 r5) (pc_cons (fact14 x0 x1 x2 x3 x4 x5 r0 r1 r2 r3 r4 r5) (pc_cons (fact15 x0 x1 x2 x3 x4 x5 r0 r1 r2 r3 r4 r5) pc_nil)))))))))))))))) W

set_option maxRecDepth 100000 in
theorem lifted (os : Os) (started : os.Started) (H : Type) (enc : TypeId × Value → H) :
    ReturnsInHanded {} Try.checked os 3 .any (Rows.clockPromptsSpec.pre6 enc Try.prog Try.f3 Rows.clockPromptsRow.domain false) (Rows.clockPromptsSpec.post enc Try.prog Try.f3 false true false false) := by
  refine returnsInHanded_of_change (C := Try.checked) own started (by kernel_rfl) Try.func3
    (ChangeSpec.witness6 (enc := enc) (C := Try.checked) false ⟨#[], #[.agg #[.int .u64 0, .int .u64 0, .int .u64 0, .int .u64 0], .int .u64 0, .int .u64 0], []⟩ 8 (by kernel_rfl) (by kernel_rfl) (by kernel_rfl) (by kernel_rfl)) ?_
  intro W base args ds gs before hval0 hW hcnd _
  have hval : ∀ (j : Nat) t v, Try.f3.params[j]? = some t → args[j]? = some v → Value.okWide Try.prog W .any base t v := hval0
  have hW' := hW
  obtain ⟨p, q, hA0, hV, rfl, hfz, hnd⟩ := hW
  have hA : DataW.TrodAll enc Try.prog W 0 (fun _ => true) true Try.f3.params.toList args.toList ds p := hA0
  rw [Try.params3] at hA hval
  obtain ⟨v0, vs0, d0, ds0, p0, q0, hargs, rfl, rfl, h0, r0⟩ := trodAll_cons hA
  obtain ⟨v1, vs1, d1, ds1, p1, q1, rfl, rfl, rfl, h1, r1⟩ := trodAll_cons r0
  obtain ⟨v2, vs2, d2, ds2, p2, q2, rfl, rfl, rfl, h2, r2⟩ := trodAll_cons r1
  obtain ⟨rfl, rfl, rfl⟩ := trodAll_nil r2
  obtain rfl : args = #[v0, v1, v2] := by cases args; simp_all
  obtain ⟨rfl, rfl⟩ := trodVars_none hV
  have lt0 : ∀ x ∈ p0, x.block < W.heap.size := by obtain ⟨m, hm⟩ := h0; exact DataW.trod_lt m _ _ _ hm
  have lt1 : ∀ x ∈ p1, x.block < W.heap.size := by obtain ⟨m, hm⟩ := h1; exact DataW.trod_lt m _ _ _ hm
  have lt2 : ∀ x ∈ p2, x.block < W.heap.size := by obtain ⟨m, hm⟩ := h2; exact DataW.trod_lt m _ _ _ hm
  have o0 := hval 0 25 v0 rfl rfl
  have o1 := hval 1 23 v1 rfl rfl
  have o2 := hval 2 23 v2 rfl rfl
  clear hA0 hval0
  refine (walk W base enc v0 d0 p0 v1 d1 p1 v2 d2 p2 o0 h0 o1 h1 o2 h2).mono fun e W' ⟨he, bel⟩ => ?_
  subst he
  exact ⟨_, rfl, _, _, _, [], _, [], hW', trodAll_mk1 (shut_bool Try.underlying4 _), (trodAll_cons_mk (Below.trod laidOut (by kernel_rfl) (of_decide_eq_true (by kernel_rfl)) h0 bel lt0) (trodAll_cons_mk (Below.trod laidOut (by kernel_rfl) (of_decide_eq_true (by kernel_rfl)) h1 bel lt1) (trodAll_cons_mk (Below.trod laidOut (by kernel_rfl) (of_decide_eq_true (by kernel_rfl)) h2 bel lt2) trodAll_mk0))), rfl, bel.frame _, fun h => by cases h⟩

theorem over : Rows.clockPromptsRow.holds Try.pinned (OpenSpec.ofChange Rows.clockPromptsSpec) :=
  OpenClaim.holds_of_wide 3 Try.f3 rfl rfl rfl rfl rfl rfl rfl ⟨rfl, rfl, rfl, rfl, rfl⟩ rfl rfl rfl rfl rfl (by kernel_rfl) Try.func3 (by kernel_rfl)
    (of_decide_eq_true (by kernel_rfl)) (by unfold Func.isWrapper; first | (rw [if_pos (by decide +kernel)]; kernel_rfl) | (rw [if_neg (by decide +kernel)]; exact ⟨rfl, rfl⟩))
    (fun os started H enc _ => lifted os started H enc)

theorem proved : Rows.ClockPromptsSaid := over

end Go.Proofs.Ythgcmholjlijeaa.clockPrompts
