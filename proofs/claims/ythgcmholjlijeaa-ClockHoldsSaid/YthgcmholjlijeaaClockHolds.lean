/-
  ClockHolds: one reckoning by the kernel, with what is known at the loops' heads, contracts of functions, and facts of arithmetic.
-/
import Derived.Test.YthgcmholjlijeaaRows
import Derived.Test.YthgcmholjlijeaaSXd
import Derived.WalkKit
import Derived.ProofKit
import Derived.OpenShut
import Derived.ChangeOld
import Derived.Below
import Derived.KernelRfl
import Derived.Lib.SmallJoins
namespace Go.Proofs.Ythgcmholjlijeaa.clockHolds
open Go.ChangeShapes Go.WideShapes Go.ChangeAt Go.RowKit
open Go.SX
set_option linter.unusedVariables false
set_option linter.unusedSimpArgs false
theorem own : ownKnob Try.prog.godebug = none := by kernel_rfl
theorem laidOut : laidOutB Try.prog = true := by kernel_rfl
theorem good : progOk Try.prog = true := by kernel_rfl


noncomputable def x25 : SV := .agg [.int .u64 (.var 0), .int .u64 (.var 1), .int .u64 (.var 2), .int .u64 (.var 3)]
noncomputable def nn : E := .fn 9 (.pr (.var 4) (.int 3))
noncomputable def lst : SV := .bsl [.int .i64, .int .i64, .int .u64] (.var 4)
noncomputable def typ4 : E := .fn 27 (.pr (mkList [.int 3, .int 3, .int 7]) (.var 4))
noncomputable def pc0 : List E := typ4 :: u64R [0, 1, 2, 3]
noncomputable def st : St := ⟨5, 0, .nil, pc0⟩
noncomputable def u (e : E) : SV := .int .u64 e
noncomputable def p (b o : Nat) : SV := .ptr b ⟨o, 0, .int 0⟩
noncomputable def gone : Blk := ⟨true, .gone⟩
noncomputable def valid : List E := [.not (eLt (.int 80) nn), .not (eLt (eV 3) (eV 1)), .not (eLt (.int 4294967296) (eV 2)), .not (eLt (.int 4294967296) (eV 3)), .not (eLt (.int 4294967296) (eV 0)), .not (eLt (eV 0) (.int 1))]
noncomputable def tmpl (run : SV) : Tmpl := ⟨tmSlots 219 [(1, lst), (2, p 0 0), (5, p 2 0), (7, p 3 0), (8, u (eV 5)), (9, .int .i64 (eV 13))],
  ⟨14, 4, heapL [⟨true, .cells [u (eV 0), u (eV 1), u (eV 2), u (eV 3)] (.int 4) 25⟩, gone,
    ⟨true, .cells [u (eV 0), u (eV 1), u (eV 2), u (eV 3), u (eV 5), u (eV 6), u (eV 7), u (eV 8), u (eV 9), u (eV 10), u (eV 11), run, u (eV 12)] (.int 13) 68⟩,
    ⟨true, .cells [u (eV 6), u (eV 9)] (.int 2) 39⟩],
   valid ++ pc0 ++ u64R [5, 6, 7, 8, 9, 10, 11, 12] ++ [eLe (.int 0) (eV 13), eLe (eV 13) (.int 80), eLe (eV 13) nn, eLe (eV 12) (eV 5), eLe (eV 6) (eV 3), eLe (eV 9) (eV 3)]⟩,
  .fn 7 (.pr nn (eV 13))⟩
noncomputable def ts : List Tmpl := [tmpl .nilp, tmpl (p 2 5), tmpl (p 2 8)]
noncomputable def ann1 (y : Option LoopX) : Ann := ⟨5, 0, ts, y⟩
noncomputable def y1 : LoopX := ⟨5, 4, [⟨.exit 0, tmSlots 219 [], ⟨5, 4, .nil, []⟩⟩]⟩
noncomputable def what (k : Int) : E := .cmp .eql (.fn 1 (.pr (.var 4) (.fn 6 (.pr (.fn 8 (.pr (.var 13) (.int 3))) (.int 0))))) (.int k)
noncomputable def args : List SV := [x25, lst]

set_option maxRecDepth 100000 in
theorem reckoned0 : withTab Try.prog (fun tb => checkAll outTrue (run Try.prog (tb.plus [] [] []) 3000 (.call 9 []) .nil (varSt 0 []) SX.one)) = true := by kernel_rfl
noncomputable def natl0 : List Nat1 := closedNat 9 :: []
theorem natl0_ok : ∀ x ∈ natl0, NatOk Try.prog x := by
  intro x hx
  rcases List.mem_cons.1 hx with rfl | hx
  · exact closed_of_check good (facts := []) all_nil (anns := []) (plainAnns_ok [] rfl) (nats := []) (fun x hx => by cases hx) reckoned0
  · exact (fun x hx => by cases hx) x hx

namespace l0
noncomputable def f0 : E := (.imp (.and (.not (.cmp .lss (.int 18446744073709551615) (.var 0))) (.not (.cmp .lss (.var 0) (.int 0)))) (.cmp .eql (.ar .sub .u64 (.var 0) (.int 0)) (.var 0)))
theorem fact0 (ρ : Env) : E.B ρ f0 = true := by
  unfold f0
  simp only [sm_I_int, sm_I_mn, sm_I_mx, sm_I_add_u64, sm_I_sub_u64, sm_I_add_i64, sm_I_sub_i64, sm_I_mul_i64, sm_I_fn6, sm_I_fn7, sm_I_fn8, sm_B_bool, sm_B_eql, sm_B_lss, sm_B_not, sm_B_and, sm_B_imp, sm_B_iff]
  rintro ⟨p0, p1⟩
  try generalize E.I ρ (.var 0) = x0 at *
  have rx0 : 0 ≤ x0 ∧ x0 < 18446744073709551616 := by omega
  obtain ⟨y0, e0, q0, h0⟩ := cs_sub rx0 (by omega : (0:Int) ≤ 0 ∧ (0:Int) < 18446744073709551616)
  try simp only [e0] at *
  omega
noncomputable def f1 : E := (.imp (.and (.not (.cmp .lss (.fn 9 (.pr (.var 4) (.int 3))) (.var 13))) (.and (.not (.cmp .lss (.int 80) (.var 13))) (.and (.not (.cmp .lss (.var 13) (.int 0))) (.fn 27 (.pr (.fn 23 (.pr (.int 3) (.fn 23 (.pr (.int 3) (.fn 23 (.pr (.int 7) (.fn 10 (.int 0)))))))) (.var 4)))))) (.not (.cmp .lss (.ar .add .i64 (.var 13) (.int 1)) (.int 0))))
theorem fact1 (ρ : Env) : E.B ρ f1 = true := by
  unfold f1
  simp only [sm_I_int, sm_I_mn, sm_I_mx, sm_I_add_u64, sm_I_sub_u64, sm_I_add_i64, sm_I_sub_i64, sm_I_mul_i64, sm_I_fn6, sm_I_fn7, sm_I_fn8, sm_B_bool, sm_B_eql, sm_B_lss, sm_B_not, sm_B_and, sm_B_imp, sm_B_iff]
  rintro ⟨p0, p1, p2, p3⟩
  clear p3
  try generalize E.I ρ (.fn 9 (.pr (.var 4) (.int 3))) = x0 at *
  try generalize E.I ρ (.var 13) = x1 at *
  obtain ⟨y0, e0, q0, h0⟩ := cs_i64 (x1 + 1)
  try simp only [e0] at *
  omega
noncomputable def f2 : E := (.imp (.and (.not (.cmp .lss (.int 18446744073709551615) (.var 9))) (.not (.cmp .lss (.var 9) (.int 0)))) (.cmp .eql (.ar .sub .u64 (.var 9) (.int 0)) (.var 9)))
theorem fact2 (ρ : Env) : E.B ρ f2 = true := by
  unfold f2
  simp only [sm_I_int, sm_I_mn, sm_I_mx, sm_I_add_u64, sm_I_sub_u64, sm_I_add_i64, sm_I_sub_i64, sm_I_mul_i64, sm_I_fn6, sm_I_fn7, sm_I_fn8, sm_B_bool, sm_B_eql, sm_B_lss, sm_B_not, sm_B_and, sm_B_imp, sm_B_iff]
  rintro ⟨p0, p1⟩
  try generalize E.I ρ (.var 9) = x0 at *
  have rx0 : 0 ≤ x0 ∧ x0 < 18446744073709551616 := by omega
  obtain ⟨y0, e0, q0, h0⟩ := cs_sub rx0 (by omega : (0:Int) ≤ 0 ∧ (0:Int) < 18446744073709551616)
  try simp only [e0] at *
  omega
noncomputable def f3 : E := (.imp (.and (.not (.cmp .lss (.var 3) (.var 9))) (.and (.not (.cmp .lss (.int 18446744073709551615) (.var 9))) (.and (.not (.cmp .lss (.var 9) (.int 0))) (.and (.not (.cmp .lss (.int 18446744073709551615) (.var 3))) (.not (.cmp .lss (.var 3) (.int 0))))))) (.not (.cmp .lss (.var 3) (.ar .sub .u64 (.var 9) (.int 0)))))
theorem fact3 (ρ : Env) : E.B ρ f3 = true := by
  unfold f3
  simp only [sm_I_int, sm_I_mn, sm_I_mx, sm_I_add_u64, sm_I_sub_u64, sm_I_add_i64, sm_I_sub_i64, sm_I_mul_i64, sm_I_fn6, sm_I_fn7, sm_I_fn8, sm_B_bool, sm_B_eql, sm_B_lss, sm_B_not, sm_B_and, sm_B_imp, sm_B_iff]
  rintro ⟨p0, p1, p2, p3, p4⟩
  try generalize E.I ρ (.var 3) = x0 at *
  try generalize E.I ρ (.var 9) = x1 at *
  have rx0 : 0 ≤ x0 ∧ x0 < 18446744073709551616 := by omega
  have rx1 : 0 ≤ x1 ∧ x1 < 18446744073709551616 := by omega
  obtain ⟨y0, e0, q0, h0⟩ := cs_sub rx1 (by omega : (0:Int) ≤ 0 ∧ (0:Int) < 18446744073709551616)
  try simp only [e0] at *
  omega
noncomputable def f4 : E := (.imp (.and (.not (.cmp .lss (.int 18446744073709551615) (.var 6))) (.not (.cmp .lss (.var 6) (.int 0)))) (.cmp .eql (.ar .sub .u64 (.var 6) (.int 0)) (.var 6)))
theorem fact4 (ρ : Env) : E.B ρ f4 = true := by
  unfold f4
  simp only [sm_I_int, sm_I_mn, sm_I_mx, sm_I_add_u64, sm_I_sub_u64, sm_I_add_i64, sm_I_sub_i64, sm_I_mul_i64, sm_I_fn6, sm_I_fn7, sm_I_fn8, sm_B_bool, sm_B_eql, sm_B_lss, sm_B_not, sm_B_and, sm_B_imp, sm_B_iff]
  rintro ⟨p0, p1⟩
  try generalize E.I ρ (.var 6) = x0 at *
  have rx0 : 0 ≤ x0 ∧ x0 < 18446744073709551616 := by omega
  obtain ⟨y0, e0, q0, h0⟩ := cs_sub rx0 (by omega : (0:Int) ≤ 0 ∧ (0:Int) < 18446744073709551616)
  try simp only [e0] at *
  omega
noncomputable def f5 : E := (.imp (.and (.not (.cmp .lss (.int 18446744073709551615) (.var 0))) (.not (.cmp .lss (.var 0) (.int 0)))) (.not (.cmp .lss (.var 0) (.ar .sub .u64 (.var 0) (.int 0)))))
theorem fact5 (ρ : Env) : E.B ρ f5 = true := by
  unfold f5
  simp only [sm_I_int, sm_I_mn, sm_I_mx, sm_I_add_u64, sm_I_sub_u64, sm_I_add_i64, sm_I_sub_i64, sm_I_mul_i64, sm_I_fn6, sm_I_fn7, sm_I_fn8, sm_B_bool, sm_B_eql, sm_B_lss, sm_B_not, sm_B_and, sm_B_imp, sm_B_iff]
  rintro ⟨p0, p1⟩
  try generalize E.I ρ (.var 0) = x0 at *
  have rx0 : 0 ≤ x0 ∧ x0 < 18446744073709551616 := by omega
  obtain ⟨y0, e0, q0, h0⟩ := cs_sub rx0 (by omega : (0:Int) ≤ 0 ∧ (0:Int) < 18446744073709551616)
  try simp only [e0] at *
  omega
noncomputable def f6 : E := (.imp (.and (.not (.cmp .lss (.var 3) (.var 6))) (.and (.not (.cmp .lss (.int 18446744073709551615) (.var 6))) (.and (.not (.cmp .lss (.var 6) (.int 0))) (.and (.not (.cmp .lss (.int 18446744073709551615) (.var 3))) (.not (.cmp .lss (.var 3) (.int 0))))))) (.not (.cmp .lss (.var 3) (.ar .sub .u64 (.var 6) (.int 0)))))
theorem fact6 (ρ : Env) : E.B ρ f6 = true := by
  unfold f6
  simp only [sm_I_int, sm_I_mn, sm_I_mx, sm_I_add_u64, sm_I_sub_u64, sm_I_add_i64, sm_I_sub_i64, sm_I_mul_i64, sm_I_fn6, sm_I_fn7, sm_I_fn8, sm_B_bool, sm_B_eql, sm_B_lss, sm_B_not, sm_B_and, sm_B_imp, sm_B_iff]
  rintro ⟨p0, p1, p2, p3, p4⟩
  try generalize E.I ρ (.var 3) = x0 at *
  try generalize E.I ρ (.var 6) = x1 at *
  have rx0 : 0 ≤ x0 ∧ x0 < 18446744073709551616 := by omega
  have rx1 : 0 ≤ x1 ∧ x1 < 18446744073709551616 := by omega
  obtain ⟨y0, e0, q0, h0⟩ := cs_sub rx1 (by omega : (0:Int) ≤ 0 ∧ (0:Int) < 18446744073709551616)
  try simp only [e0] at *
  omega
noncomputable def f7 : E := (.imp (.and (.not (.cmp .lss (.int 80) (.var 13))) (.and (.not (.cmp .lss (.var 13) (.int 0))) (.and (.not (.cmp .lss (.int 18446744073709551615) (.var 5))) (.and (.not (.cmp .lss (.var 5) (.int 0))) (.fn 27 (.pr (.fn 23 (.pr (.int 3) (.fn 23 (.pr (.int 3) (.fn 23 (.pr (.int 7) (.fn 10 (.int 0)))))))) (.var 4))))))) (.not (.cmp .lss (.mx (.var 5) (.fn 1 (.pr (.var 4) (.fn 6 (.pr (.fn 8 (.pr (.var 13) (.int 3))) (.int 2)))))) (.int 0))))
theorem fact7 (ρ : Env) : E.B ρ f7 = true := by
  unfold f7
  simp only [sm_I_int, sm_I_mn, sm_I_mx, sm_I_add_u64, sm_I_sub_u64, sm_I_add_i64, sm_I_sub_i64, sm_I_mul_i64, sm_I_fn6, sm_I_fn7, sm_I_fn8, sm_B_bool, sm_B_eql, sm_B_lss, sm_B_not, sm_B_and, sm_B_imp, sm_B_iff]
  rintro ⟨p0, p1, p2, p3, p4⟩
  have z0 := elem_range (i := (.var 13)) (w := 3) (j := 2) (k := 7) p4 rfl rfl (by decide) (by omega)
  clear p4
  simp only [kindLo, kindHi] at z0
  try generalize E.I ρ (.var 13) = x0 at *
  try generalize E.I ρ (.var 5) = x1 at *
  try generalize E.I ρ (.fn 1 (.pr (.var 4) (.fn 6 (.pr (.fn 8 (.pr (.var 13) (.int 3))) (.int 2))))) = x2 at *
  have rx1 : 0 ≤ x1 ∧ x1 < 18446744073709551616 := by omega
  have rx2 : 0 ≤ x2 ∧ x2 < 18446744073709551616 := by omega
  obtain ⟨y0, e0, q0, h0⟩ := cs_max rx1 rx2
  try simp only [e0] at *
  omega
noncomputable def f8 : E := (.imp (.and (.not (.cmp .lss (.int 80) (.var 13))) (.and (.not (.cmp .lss (.var 13) (.int 0))) (.and (.not (.cmp .lss (.int 18446744073709551615) (.var 5))) (.and (.not (.cmp .lss (.var 5) (.int 0))) (.and (.not (.cmp .lss (.int 18446744073709551615) (.var 0))) (.and (.not (.cmp .lss (.var 0) (.int 0))) (.fn 27 (.pr (.fn 23 (.pr (.int 3) (.fn 23 (.pr (.int 3) (.fn 23 (.pr (.int 7) (.fn 10 (.int 0)))))))) (.var 4))))))))) (.not (.cmp .lss (.var 0) (.ar .sub .u64 (.var 0) (.mn (.ar .sub .u64 (.mx (.mx (.var 5) (.fn 1 (.pr (.var 4) (.fn 6 (.pr (.fn 8 (.pr (.var 13) (.int 3))) (.int 2)))))) (.mx (.var 5) (.fn 1 (.pr (.var 4) (.fn 6 (.pr (.fn 8 (.pr (.var 13) (.int 3))) (.int 2))))))) (.mx (.var 5) (.fn 1 (.pr (.var 4) (.fn 6 (.pr (.fn 8 (.pr (.var 13) (.int 3))) (.int 2))))))) (.var 0))))))
theorem fact8 (ρ : Env) : E.B ρ f8 = true := by
  unfold f8
  simp only [sm_I_int, sm_I_mn, sm_I_mx, sm_I_add_u64, sm_I_sub_u64, sm_I_add_i64, sm_I_sub_i64, sm_I_mul_i64, sm_I_fn6, sm_I_fn7, sm_I_fn8, sm_B_bool, sm_B_eql, sm_B_lss, sm_B_not, sm_B_and, sm_B_imp, sm_B_iff]
  rintro ⟨p0, p1, p2, p3, p4, p5, p6⟩
  have z0 := elem_range (i := (.var 13)) (w := 3) (j := 2) (k := 7) p6 rfl rfl (by decide) (by omega)
  clear p6
  simp only [kindLo, kindHi] at z0
  try generalize E.I ρ (.var 13) = x0 at *
  try generalize E.I ρ (.var 5) = x1 at *
  try generalize E.I ρ (.var 0) = x2 at *
  try generalize E.I ρ (.fn 1 (.pr (.var 4) (.fn 6 (.pr (.fn 8 (.pr (.var 13) (.int 3))) (.int 2))))) = x3 at *
  have rx1 : 0 ≤ x1 ∧ x1 < 18446744073709551616 := by omega
  have rx2 : 0 ≤ x2 ∧ x2 < 18446744073709551616 := by omega
  have rx3 : 0 ≤ x3 ∧ x3 < 18446744073709551616 := by omega
  obtain ⟨y0, e0, q0, h0⟩ := cs_max rx1 rx3
  try simp only [e0] at *
  obtain ⟨y1, e1, q1, h1⟩ := cs_max q0 q0
  try simp only [e1] at *
  obtain ⟨y2, e2, q2, h2⟩ := cs_sub q1 q0
  try simp only [e2] at *
  obtain ⟨y3, e3, q3, h3⟩ := cs_min q2 rx2
  try simp only [e3] at *
  obtain ⟨y4, e4, q4, h4⟩ := cs_sub rx2 q3
  try simp only [e4] at *
  omega
noncomputable def f9 : E := (.imp (.and (.not (.cmp .lss (.int 80) (.fn 9 (.pr (.var 4) (.int 3))))) (.and (.cmp .lss (.var 13) (.fn 9 (.pr (.var 4) (.int 3)))) (.not (.cmp .lss (.var 13) (.int 0))))) (.not (.cmp .lss (.int 80) (.ar .add .i64 (.var 13) (.int 1)))))
theorem fact9 (ρ : Env) : E.B ρ f9 = true := by
  unfold f9
  simp only [sm_I_int, sm_I_mn, sm_I_mx, sm_I_add_u64, sm_I_sub_u64, sm_I_add_i64, sm_I_sub_i64, sm_I_mul_i64, sm_I_fn6, sm_I_fn7, sm_I_fn8, sm_B_bool, sm_B_eql, sm_B_lss, sm_B_not, sm_B_and, sm_B_imp, sm_B_iff]
  rintro ⟨p0, p1, p2⟩
  try generalize E.I ρ (.fn 9 (.pr (.var 4) (.int 3))) = x0 at *
  try generalize E.I ρ (.var 13) = x1 at *
  obtain ⟨y0, e0, q0, h0⟩ := cs_i64 (x1 + 1)
  try simp only [e0] at *
  omega
noncomputable def f10 : E := (.imp (.and (.not (.cmp .lss (.int 80) (.var 13))) (.and (.not (.cmp .lss (.var 13) (.int 0))) (.and (.not (.cmp .lss (.int 18446744073709551615) (.var 5))) (.and (.not (.cmp .lss (.var 5) (.int 0))) (.fn 27 (.pr (.fn 23 (.pr (.int 3) (.fn 23 (.pr (.int 3) (.fn 23 (.pr (.int 7) (.fn 10 (.int 0)))))))) (.var 4))))))) (.not (.cmp .lss (.int 18446744073709551615) (.mx (.var 5) (.fn 1 (.pr (.var 4) (.fn 6 (.pr (.fn 8 (.pr (.var 13) (.int 3))) (.int 2)))))))))
theorem fact10 (ρ : Env) : E.B ρ f10 = true := by
  unfold f10
  simp only [sm_I_int, sm_I_mn, sm_I_mx, sm_I_add_u64, sm_I_sub_u64, sm_I_add_i64, sm_I_sub_i64, sm_I_mul_i64, sm_I_fn6, sm_I_fn7, sm_I_fn8, sm_B_bool, sm_B_eql, sm_B_lss, sm_B_not, sm_B_and, sm_B_imp, sm_B_iff]
  rintro ⟨p0, p1, p2, p3, p4⟩
  have z0 := elem_range (i := (.var 13)) (w := 3) (j := 2) (k := 7) p4 rfl rfl (by decide) (by omega)
  clear p4
  simp only [kindLo, kindHi] at z0
  try generalize E.I ρ (.var 13) = x0 at *
  try generalize E.I ρ (.var 5) = x1 at *
  try generalize E.I ρ (.fn 1 (.pr (.var 4) (.fn 6 (.pr (.fn 8 (.pr (.var 13) (.int 3))) (.int 2))))) = x2 at *
  have rx1 : 0 ≤ x1 ∧ x1 < 18446744073709551616 := by omega
  have rx2 : 0 ≤ x2 ∧ x2 < 18446744073709551616 := by omega
  obtain ⟨y0, e0, q0, h0⟩ := cs_max rx1 rx2
  try simp only [e0] at *
  omega
noncomputable def f11 : E := (.imp (.and (.not (.cmp .lss (.var 3) (.var 6))) (.and (.not (.cmp .lss (.int 80) (.var 13))) (.and (.not (.cmp .lss (.var 13) (.int 0))) (.and (.not (.cmp .lss (.int 18446744073709551615) (.var 6))) (.and (.not (.cmp .lss (.var 6) (.int 0))) (.and (.not (.cmp .lss (.int 18446744073709551615) (.var 5))) (.and (.not (.cmp .lss (.var 5) (.int 0))) (.and (.not (.cmp .lss (.int 18446744073709551615) (.var 3))) (.and (.not (.cmp .lss (.var 3) (.int 0))) (.and (.not (.cmp .lss (.int 18446744073709551615) (.var 0))) (.and (.not (.cmp .lss (.var 0) (.int 0))) (.fn 27 (.pr (.fn 23 (.pr (.int 3) (.fn 23 (.pr (.int 3) (.fn 23 (.pr (.int 7) (.fn 10 (.int 0)))))))) (.var 4)))))))))))))) (.not (.cmp .lss (.var 3) (.ar .sub .u64 (.var 6) (.mn (.ar .sub .u64 (.ar .sub .u64 (.mx (.mx (.var 5) (.fn 1 (.pr (.var 4) (.fn 6 (.pr (.fn 8 (.pr (.var 13) (.int 3))) (.int 2)))))) (.mx (.var 5) (.fn 1 (.pr (.var 4) (.fn 6 (.pr (.fn 8 (.pr (.var 13) (.int 3))) (.int 2))))))) (.mx (.var 5) (.fn 1 (.pr (.var 4) (.fn 6 (.pr (.fn 8 (.pr (.var 13) (.int 3))) (.int 2))))))) (.mn (.ar .sub .u64 (.mx (.mx (.var 5) (.fn 1 (.pr (.var 4) (.fn 6 (.pr (.fn 8 (.pr (.var 13) (.int 3))) (.int 2)))))) (.mx (.var 5) (.fn 1 (.pr (.var 4) (.fn 6 (.pr (.fn 8 (.pr (.var 13) (.int 3))) (.int 2))))))) (.mx (.var 5) (.fn 1 (.pr (.var 4) (.fn 6 (.pr (.fn 8 (.pr (.var 13) (.int 3))) (.int 2))))))) (.var 0))) (.var 6))))))
theorem fact11 (ρ : Env) : E.B ρ f11 = true := by
  unfold f11
  simp only [sm_I_int, sm_I_mn, sm_I_mx, sm_I_add_u64, sm_I_sub_u64, sm_I_add_i64, sm_I_sub_i64, sm_I_mul_i64, sm_I_fn6, sm_I_fn7, sm_I_fn8, sm_B_bool, sm_B_eql, sm_B_lss, sm_B_not, sm_B_and, sm_B_imp, sm_B_iff]
  rintro ⟨p0, p1, p2, p3, p4, p5, p6, p7, p8, p9, p10, p11⟩
  have z0 := elem_range (i := (.var 13)) (w := 3) (j := 2) (k := 7) p11 rfl rfl (by decide) (by omega)
  clear p11
  simp only [kindLo, kindHi] at z0
  try generalize E.I ρ (.var 3) = x0 at *
  try generalize E.I ρ (.var 6) = x1 at *
  try generalize E.I ρ (.var 13) = x2 at *
  try generalize E.I ρ (.var 5) = x3 at *
  try generalize E.I ρ (.var 0) = x4 at *
  try generalize E.I ρ (.fn 1 (.pr (.var 4) (.fn 6 (.pr (.fn 8 (.pr (.var 13) (.int 3))) (.int 2))))) = x5 at *
  have rx0 : 0 ≤ x0 ∧ x0 < 18446744073709551616 := by omega
  have rx1 : 0 ≤ x1 ∧ x1 < 18446744073709551616 := by omega
  have rx3 : 0 ≤ x3 ∧ x3 < 18446744073709551616 := by omega
  have rx4 : 0 ≤ x4 ∧ x4 < 18446744073709551616 := by omega
  have rx5 : 0 ≤ x5 ∧ x5 < 18446744073709551616 := by omega
  obtain ⟨y0, e0, q0, h0⟩ := cs_max rx3 rx5
  try simp only [e0] at *
  obtain ⟨y1, e1, q1, h1⟩ := cs_max q0 q0
  try simp only [e1] at *
  obtain ⟨y2, e2, q2, h2⟩ := cs_sub q1 q0
  try simp only [e2] at *
  obtain ⟨y3, e3, q3, h3⟩ := cs_min q2 rx4
  try simp only [e3] at *
  obtain ⟨y4, e4, q4, h4⟩ := cs_sub q2 q3
  try simp only [e4] at *
  obtain ⟨y5, e5, q5, h5⟩ := cs_min q4 rx1
  try simp only [e5] at *
  obtain ⟨y6, e6, q6, h6⟩ := cs_sub rx1 q5
  try simp only [e6] at *
  omega
noncomputable def f12 : E := (.imp (.and (.not (.cmp .lss (.var 3) (.var 9))) (.and (.not (.cmp .lss (.int 80) (.var 13))) (.and (.not (.cmp .lss (.var 13) (.int 0))) (.and (.not (.cmp .lss (.int 18446744073709551615) (.var 9))) (.and (.not (.cmp .lss (.var 9) (.int 0))) (.and (.not (.cmp .lss (.int 18446744073709551615) (.var 5))) (.and (.not (.cmp .lss (.var 5) (.int 0))) (.and (.not (.cmp .lss (.int 18446744073709551615) (.var 3))) (.and (.not (.cmp .lss (.var 3) (.int 0))) (.and (.not (.cmp .lss (.int 18446744073709551615) (.var 0))) (.and (.not (.cmp .lss (.var 0) (.int 0))) (.fn 27 (.pr (.fn 23 (.pr (.int 3) (.fn 23 (.pr (.int 3) (.fn 23 (.pr (.int 7) (.fn 10 (.int 0)))))))) (.var 4)))))))))))))) (.not (.cmp .lss (.var 3) (.ar .sub .u64 (.var 9) (.mn (.ar .sub .u64 (.ar .sub .u64 (.mx (.mx (.var 5) (.fn 1 (.pr (.var 4) (.fn 6 (.pr (.fn 8 (.pr (.var 13) (.int 3))) (.int 2)))))) (.mx (.var 5) (.fn 1 (.pr (.var 4) (.fn 6 (.pr (.fn 8 (.pr (.var 13) (.int 3))) (.int 2))))))) (.mx (.var 5) (.fn 1 (.pr (.var 4) (.fn 6 (.pr (.fn 8 (.pr (.var 13) (.int 3))) (.int 2))))))) (.mn (.ar .sub .u64 (.mx (.mx (.var 5) (.fn 1 (.pr (.var 4) (.fn 6 (.pr (.fn 8 (.pr (.var 13) (.int 3))) (.int 2)))))) (.mx (.var 5) (.fn 1 (.pr (.var 4) (.fn 6 (.pr (.fn 8 (.pr (.var 13) (.int 3))) (.int 2))))))) (.mx (.var 5) (.fn 1 (.pr (.var 4) (.fn 6 (.pr (.fn 8 (.pr (.var 13) (.int 3))) (.int 2))))))) (.var 0))) (.var 9))))))
theorem fact12 (ρ : Env) : E.B ρ f12 = true := by
  unfold f12
  simp only [sm_I_int, sm_I_mn, sm_I_mx, sm_I_add_u64, sm_I_sub_u64, sm_I_add_i64, sm_I_sub_i64, sm_I_mul_i64, sm_I_fn6, sm_I_fn7, sm_I_fn8, sm_B_bool, sm_B_eql, sm_B_lss, sm_B_not, sm_B_and, sm_B_imp, sm_B_iff]
  rintro ⟨p0, p1, p2, p3, p4, p5, p6, p7, p8, p9, p10, p11⟩
  have z0 := elem_range (i := (.var 13)) (w := 3) (j := 2) (k := 7) p11 rfl rfl (by decide) (by omega)
  clear p11
  simp only [kindLo, kindHi] at z0
  try generalize E.I ρ (.var 3) = x0 at *
  try generalize E.I ρ (.var 9) = x1 at *
  try generalize E.I ρ (.var 13) = x2 at *
  try generalize E.I ρ (.var 5) = x3 at *
  try generalize E.I ρ (.var 0) = x4 at *
  try generalize E.I ρ (.fn 1 (.pr (.var 4) (.fn 6 (.pr (.fn 8 (.pr (.var 13) (.int 3))) (.int 2))))) = x5 at *
  have rx0 : 0 ≤ x0 ∧ x0 < 18446744073709551616 := by omega
  have rx1 : 0 ≤ x1 ∧ x1 < 18446744073709551616 := by omega
  have rx3 : 0 ≤ x3 ∧ x3 < 18446744073709551616 := by omega
  have rx4 : 0 ≤ x4 ∧ x4 < 18446744073709551616 := by omega
  have rx5 : 0 ≤ x5 ∧ x5 < 18446744073709551616 := by omega
  obtain ⟨y0, e0, q0, h0⟩ := cs_max rx3 rx5
  try simp only [e0] at *
  obtain ⟨y1, e1, q1, h1⟩ := cs_max q0 q0
  try simp only [e1] at *
  obtain ⟨y2, e2, q2, h2⟩ := cs_sub q1 q0
  try simp only [e2] at *
  obtain ⟨y3, e3, q3, h3⟩ := cs_min q2 rx4
  try simp only [e3] at *
  obtain ⟨y4, e4, q4, h4⟩ := cs_sub q2 q3
  try simp only [e4] at *
  obtain ⟨y5, e5, q5, h5⟩ := cs_min q4 rx1
  try simp only [e5] at *
  obtain ⟨y6, e6, q6, h6⟩ := cs_sub rx1 q5
  try simp only [e6] at *
  omega
noncomputable def f13 : E := (.imp (.and (.cmp .lss (.var 13) (.fn 9 (.pr (.var 4) (.int 3)))) (.and (.not (.cmp .lss (.int 80) (.var 13))) (.and (.not (.cmp .lss (.var 13) (.int 0))) (.fn 27 (.pr (.fn 23 (.pr (.int 3) (.fn 23 (.pr (.int 3) (.fn 23 (.pr (.int 7) (.fn 10 (.int 0)))))))) (.var 4)))))) (.not (.cmp .lss (.fn 9 (.pr (.var 4) (.int 3))) (.ar .add .i64 (.var 13) (.int 1)))))
theorem fact13 (ρ : Env) : E.B ρ f13 = true := by
  unfold f13
  simp only [sm_I_int, sm_I_mn, sm_I_mx, sm_I_add_u64, sm_I_sub_u64, sm_I_add_i64, sm_I_sub_i64, sm_I_mul_i64, sm_I_fn6, sm_I_fn7, sm_I_fn8, sm_B_bool, sm_B_eql, sm_B_lss, sm_B_not, sm_B_and, sm_B_imp, sm_B_iff]
  rintro ⟨p0, p1, p2, p3⟩
  clear p3
  try generalize E.I ρ (.var 13) = x0 at *
  try generalize E.I ρ (.fn 9 (.pr (.var 4) (.int 3))) = x1 at *
  obtain ⟨y0, e0, q0, h0⟩ := cs_i64 (x0 + 1)
  try simp only [e0] at *
  omega
noncomputable def f14 : E := (.imp (.and (.not (.cmp .lss (.fn 9 (.pr (.var 4) (.int 3))) (.var 13))) (.and (.not (.cmp .lss (.int 80) (.var 13))) (.and (.not (.cmp .lss (.var 13) (.int 0))) (.fn 27 (.pr (.fn 23 (.pr (.int 3) (.fn 23 (.pr (.int 3) (.fn 23 (.pr (.int 7) (.fn 10 (.int 0)))))))) (.var 4)))))) (.cmp .lss (.fn 7 (.pr (.fn 9 (.pr (.var 4) (.int 3))) (.ar .add .i64 (.var 13) (.int 1)))) (.fn 7 (.pr (.fn 9 (.pr (.var 4) (.int 3))) (.var 13)))))
theorem fact14 (ρ : Env) : E.B ρ f14 = true := by
  unfold f14
  simp only [sm_I_int, sm_I_mn, sm_I_mx, sm_I_add_u64, sm_I_sub_u64, sm_I_add_i64, sm_I_sub_i64, sm_I_mul_i64, sm_I_fn6, sm_I_fn7, sm_I_fn8, sm_B_bool, sm_B_eql, sm_B_lss, sm_B_not, sm_B_and, sm_B_imp, sm_B_iff]
  rintro ⟨p0, p1, p2, p3⟩
  clear p3
  try generalize E.I ρ (.fn 9 (.pr (.var 4) (.int 3))) = x0 at *
  try generalize E.I ρ (.var 13) = x1 at *
  obtain ⟨y0, e0, q0, h0⟩ := cs_i64 (x1 + 1)
  try simp only [e0] at *
  omega
noncomputable def f15 : E := (.imp (.and (.cmp .lss (.var 13) (.fn 9 (.pr (.var 4) (.int 3)))) (.and (.not (.cmp .lss (.int 80) (.var 13))) (.and (.not (.cmp .lss (.var 13) (.int 0))) (.fn 27 (.pr (.fn 23 (.pr (.int 3) (.fn 23 (.pr (.int 3) (.fn 23 (.pr (.int 7) (.fn 10 (.int 0)))))))) (.var 4)))))) (.not (.cmp .lss (.fn 7 (.pr (.fn 9 (.pr (.var 4) (.int 3))) (.ar .add .i64 (.var 13) (.int 1)))) (.int 0))))
theorem fact15 (ρ : Env) : E.B ρ f15 = true := by
  unfold f15
  simp only [sm_I_int, sm_I_mn, sm_I_mx, sm_I_add_u64, sm_I_sub_u64, sm_I_add_i64, sm_I_sub_i64, sm_I_mul_i64, sm_I_fn6, sm_I_fn7, sm_I_fn8, sm_B_bool, sm_B_eql, sm_B_lss, sm_B_not, sm_B_and, sm_B_imp, sm_B_iff]
  rintro ⟨p0, p1, p2, p3⟩
  clear p3
  try generalize E.I ρ (.var 13) = x0 at *
  try generalize E.I ρ (.fn 9 (.pr (.var 4) (.int 3))) = x1 at *
  obtain ⟨y0, e0, q0, h0⟩ := cs_i64 (x0 + 1)
  try simp only [e0] at *
  omega
noncomputable def f16 : E := (.imp (.and (.not (.cmp .lss (.int 18446744073709551615) (.var 6))) (.and (.not (.cmp .lss (.var 6) (.int 0))) (.and (.not (.cmp .lss (.int 18446744073709551615) (.var 3))) (.and (.not (.cmp .lss (.var 3) (.int 0))) (.and (.not (.cmp .lss (.int 18446744073709551615) (.var 2))) (.not (.cmp .lss (.var 2) (.int 0)))))))) (.not (.cmp .lss (.ar .add .u64 (.var 6) (.mn (.var 2) (.ar .sub .u64 (.var 3) (.var 6)))) (.int 0))))
theorem fact16 (ρ : Env) : E.B ρ f16 = true := by
  unfold f16
  simp only [sm_I_int, sm_I_mn, sm_I_mx, sm_I_add_u64, sm_I_sub_u64, sm_I_add_i64, sm_I_sub_i64, sm_I_mul_i64, sm_I_fn6, sm_I_fn7, sm_I_fn8, sm_B_bool, sm_B_eql, sm_B_lss, sm_B_not, sm_B_and, sm_B_imp, sm_B_iff]
  rintro ⟨p0, p1, p2, p3, p4, p5⟩
  try generalize E.I ρ (.var 6) = x0 at *
  try generalize E.I ρ (.var 3) = x1 at *
  try generalize E.I ρ (.var 2) = x2 at *
  have rx0 : 0 ≤ x0 ∧ x0 < 18446744073709551616 := by omega
  have rx1 : 0 ≤ x1 ∧ x1 < 18446744073709551616 := by omega
  have rx2 : 0 ≤ x2 ∧ x2 < 18446744073709551616 := by omega
  obtain ⟨y0, e0, q0, h0⟩ := cs_sub rx1 rx0
  try simp only [e0] at *
  obtain ⟨y1, e1, q1, h1⟩ := cs_min rx2 q0
  try simp only [e1] at *
  obtain ⟨y2, e2, q2, h2⟩ := cs_add rx0 q1
  try simp only [e2] at *
  omega
noncomputable def f17 : E := (.imp (.and (.not (.cmp .lss (.int 18446744073709551615) (.var 6))) (.and (.not (.cmp .lss (.var 6) (.int 0))) (.and (.not (.cmp .lss (.int 18446744073709551615) (.var 3))) (.and (.not (.cmp .lss (.var 3) (.int 0))) (.and (.not (.cmp .lss (.int 18446744073709551615) (.var 2))) (.not (.cmp .lss (.var 2) (.int 0)))))))) (.cmp .eql (.ar .sub .u64 (.ar .add .u64 (.var 6) (.mn (.var 2) (.ar .sub .u64 (.var 3) (.var 6)))) (.int 0)) (.ar .add .u64 (.var 6) (.mn (.var 2) (.ar .sub .u64 (.var 3) (.var 6))))))
theorem fact17 (ρ : Env) : E.B ρ f17 = true := by
  unfold f17
  simp only [sm_I_int, sm_I_mn, sm_I_mx, sm_I_add_u64, sm_I_sub_u64, sm_I_add_i64, sm_I_sub_i64, sm_I_mul_i64, sm_I_fn6, sm_I_fn7, sm_I_fn8, sm_B_bool, sm_B_eql, sm_B_lss, sm_B_not, sm_B_and, sm_B_imp, sm_B_iff]
  rintro ⟨p0, p1, p2, p3, p4, p5⟩
  try generalize E.I ρ (.var 6) = x0 at *
  try generalize E.I ρ (.var 3) = x1 at *
  try generalize E.I ρ (.var 2) = x2 at *
  have rx0 : 0 ≤ x0 ∧ x0 < 18446744073709551616 := by omega
  have rx1 : 0 ≤ x1 ∧ x1 < 18446744073709551616 := by omega
  have rx2 : 0 ≤ x2 ∧ x2 < 18446744073709551616 := by omega
  obtain ⟨y0, e0, q0, h0⟩ := cs_sub rx1 rx0
  try simp only [e0] at *
  obtain ⟨y1, e1, q1, h1⟩ := cs_min rx2 q0
  try simp only [e1] at *
  obtain ⟨y2, e2, q2, h2⟩ := cs_add rx0 q1
  try simp only [e2] at *
  obtain ⟨y3, e3, q3, h3⟩ := cs_sub q2 (by omega : (0:Int) ≤ 0 ∧ (0:Int) < 18446744073709551616)
  try simp only [e3] at *
  omega
noncomputable def f18 : E := (.imp (.and (.not (.cmp .lss (.var 3) (.var 6))) (.and (.not (.cmp .lss (.int 18446744073709551615) (.var 6))) (.and (.not (.cmp .lss (.var 6) (.int 0))) (.and (.not (.cmp .lss (.int 18446744073709551615) (.var 3))) (.and (.not (.cmp .lss (.var 3) (.int 0))) (.and (.not (.cmp .lss (.int 18446744073709551615) (.var 2))) (.not (.cmp .lss (.var 2) (.int 0))))))))) (.not (.cmp .lss (.var 3) (.ar .sub .u64 (.ar .add .u64 (.var 6) (.mn (.var 2) (.ar .sub .u64 (.var 3) (.var 6)))) (.int 0)))))
theorem fact18 (ρ : Env) : E.B ρ f18 = true := by
  unfold f18
  simp only [sm_I_int, sm_I_mn, sm_I_mx, sm_I_add_u64, sm_I_sub_u64, sm_I_add_i64, sm_I_sub_i64, sm_I_mul_i64, sm_I_fn6, sm_I_fn7, sm_I_fn8, sm_B_bool, sm_B_eql, sm_B_lss, sm_B_not, sm_B_and, sm_B_imp, sm_B_iff]
  rintro ⟨p0, p1, p2, p3, p4, p5, p6⟩
  try generalize E.I ρ (.var 3) = x0 at *
  try generalize E.I ρ (.var 6) = x1 at *
  try generalize E.I ρ (.var 2) = x2 at *
  have rx0 : 0 ≤ x0 ∧ x0 < 18446744073709551616 := by omega
  have rx1 : 0 ≤ x1 ∧ x1 < 18446744073709551616 := by omega
  have rx2 : 0 ≤ x2 ∧ x2 < 18446744073709551616 := by omega
  obtain ⟨y0, e0, q0, h0⟩ := cs_sub rx0 rx1
  try simp only [e0] at *
  obtain ⟨y1, e1, q1, h1⟩ := cs_min rx2 q0
  try simp only [e1] at *
  obtain ⟨y2, e2, q2, h2⟩ := cs_add rx1 q1
  try simp only [e2] at *
  obtain ⟨y3, e3, q3, h3⟩ := cs_sub q2 (by omega : (0:Int) ≤ 0 ∧ (0:Int) < 18446744073709551616)
  try simp only [e3] at *
  omega
noncomputable def f19 : E := (.imp (.and (.not (.cmp .lss (.int 18446744073709551615) (.var 9))) (.and (.not (.cmp .lss (.var 9) (.int 0))) (.and (.not (.cmp .lss (.int 18446744073709551615) (.var 3))) (.and (.not (.cmp .lss (.var 3) (.int 0))) (.and (.not (.cmp .lss (.int 18446744073709551615) (.var 2))) (.not (.cmp .lss (.var 2) (.int 0)))))))) (.not (.cmp .lss (.ar .add .u64 (.var 9) (.mn (.var 2) (.ar .sub .u64 (.var 3) (.var 9)))) (.int 0))))
theorem fact19 (ρ : Env) : E.B ρ f19 = true := by
  unfold f19
  simp only [sm_I_int, sm_I_mn, sm_I_mx, sm_I_add_u64, sm_I_sub_u64, sm_I_add_i64, sm_I_sub_i64, sm_I_mul_i64, sm_I_fn6, sm_I_fn7, sm_I_fn8, sm_B_bool, sm_B_eql, sm_B_lss, sm_B_not, sm_B_and, sm_B_imp, sm_B_iff]
  rintro ⟨p0, p1, p2, p3, p4, p5⟩
  try generalize E.I ρ (.var 9) = x0 at *
  try generalize E.I ρ (.var 3) = x1 at *
  try generalize E.I ρ (.var 2) = x2 at *
  have rx0 : 0 ≤ x0 ∧ x0 < 18446744073709551616 := by omega
  have rx1 : 0 ≤ x1 ∧ x1 < 18446744073709551616 := by omega
  have rx2 : 0 ≤ x2 ∧ x2 < 18446744073709551616 := by omega
  obtain ⟨y0, e0, q0, h0⟩ := cs_sub rx1 rx0
  try simp only [e0] at *
  obtain ⟨y1, e1, q1, h1⟩ := cs_min rx2 q0
  try simp only [e1] at *
  obtain ⟨y2, e2, q2, h2⟩ := cs_add rx0 q1
  try simp only [e2] at *
  omega
noncomputable def f20 : E := (.imp (.and (.not (.cmp .lss (.int 18446744073709551615) (.var 9))) (.and (.not (.cmp .lss (.var 9) (.int 0))) (.and (.not (.cmp .lss (.int 18446744073709551615) (.var 3))) (.and (.not (.cmp .lss (.var 3) (.int 0))) (.and (.not (.cmp .lss (.int 18446744073709551615) (.var 2))) (.not (.cmp .lss (.var 2) (.int 0)))))))) (.cmp .eql (.ar .sub .u64 (.ar .add .u64 (.var 9) (.mn (.var 2) (.ar .sub .u64 (.var 3) (.var 9)))) (.int 0)) (.ar .add .u64 (.var 9) (.mn (.var 2) (.ar .sub .u64 (.var 3) (.var 9))))))
theorem fact20 (ρ : Env) : E.B ρ f20 = true := by
  unfold f20
  simp only [sm_I_int, sm_I_mn, sm_I_mx, sm_I_add_u64, sm_I_sub_u64, sm_I_add_i64, sm_I_sub_i64, sm_I_mul_i64, sm_I_fn6, sm_I_fn7, sm_I_fn8, sm_B_bool, sm_B_eql, sm_B_lss, sm_B_not, sm_B_and, sm_B_imp, sm_B_iff]
  rintro ⟨p0, p1, p2, p3, p4, p5⟩
  try generalize E.I ρ (.var 9) = x0 at *
  try generalize E.I ρ (.var 3) = x1 at *
  try generalize E.I ρ (.var 2) = x2 at *
  have rx0 : 0 ≤ x0 ∧ x0 < 18446744073709551616 := by omega
  have rx1 : 0 ≤ x1 ∧ x1 < 18446744073709551616 := by omega
  have rx2 : 0 ≤ x2 ∧ x2 < 18446744073709551616 := by omega
  obtain ⟨y0, e0, q0, h0⟩ := cs_sub rx1 rx0
  try simp only [e0] at *
  obtain ⟨y1, e1, q1, h1⟩ := cs_min rx2 q0
  try simp only [e1] at *
  obtain ⟨y2, e2, q2, h2⟩ := cs_add rx0 q1
  try simp only [e2] at *
  obtain ⟨y3, e3, q3, h3⟩ := cs_sub q2 (by omega : (0:Int) ≤ 0 ∧ (0:Int) < 18446744073709551616)
  try simp only [e3] at *
  omega
noncomputable def f21 : E := (.imp (.and (.not (.cmp .lss (.var 3) (.var 9))) (.and (.not (.cmp .lss (.int 18446744073709551615) (.var 9))) (.and (.not (.cmp .lss (.var 9) (.int 0))) (.and (.not (.cmp .lss (.int 18446744073709551615) (.var 3))) (.and (.not (.cmp .lss (.var 3) (.int 0))) (.and (.not (.cmp .lss (.int 18446744073709551615) (.var 2))) (.not (.cmp .lss (.var 2) (.int 0))))))))) (.not (.cmp .lss (.var 3) (.ar .sub .u64 (.ar .add .u64 (.var 9) (.mn (.var 2) (.ar .sub .u64 (.var 3) (.var 9)))) (.int 0)))))
theorem fact21 (ρ : Env) : E.B ρ f21 = true := by
  unfold f21
  simp only [sm_I_int, sm_I_mn, sm_I_mx, sm_I_add_u64, sm_I_sub_u64, sm_I_add_i64, sm_I_sub_i64, sm_I_mul_i64, sm_I_fn6, sm_I_fn7, sm_I_fn8, sm_B_bool, sm_B_eql, sm_B_lss, sm_B_not, sm_B_and, sm_B_imp, sm_B_iff]
  rintro ⟨p0, p1, p2, p3, p4, p5, p6⟩
  try generalize E.I ρ (.var 3) = x0 at *
  try generalize E.I ρ (.var 9) = x1 at *
  try generalize E.I ρ (.var 2) = x2 at *
  have rx0 : 0 ≤ x0 ∧ x0 < 18446744073709551616 := by omega
  have rx1 : 0 ≤ x1 ∧ x1 < 18446744073709551616 := by omega
  have rx2 : 0 ≤ x2 ∧ x2 < 18446744073709551616 := by omega
  obtain ⟨y0, e0, q0, h0⟩ := cs_sub rx0 rx1
  try simp only [e0] at *
  obtain ⟨y1, e1, q1, h1⟩ := cs_min rx2 q0
  try simp only [e1] at *
  obtain ⟨y2, e2, q2, h2⟩ := cs_add rx1 q1
  try simp only [e2] at *
  obtain ⟨y3, e3, q3, h3⟩ := cs_sub q2 (by omega : (0:Int) ≤ 0 ∧ (0:Int) < 18446744073709551616)
  try simp only [e3] at *
  omega
noncomputable def f22 : E := (.imp (.and (.not (.cmp .lss (.int 18446744073709551615) (.var 6))) (.and (.not (.cmp .lss (.var 6) (.int 0))) (.and (.not (.cmp .lss (.int 18446744073709551615) (.var 3))) (.and (.not (.cmp .lss (.var 3) (.int 0))) (.and (.not (.cmp .lss (.int 18446744073709551615) (.var 2))) (.not (.cmp .lss (.var 2) (.int 0)))))))) (.not (.cmp .lss (.int 18446744073709551615) (.ar .add .u64 (.var 6) (.mn (.var 2) (.ar .sub .u64 (.var 3) (.var 6)))))))
theorem fact22 (ρ : Env) : E.B ρ f22 = true := by
  unfold f22
  simp only [sm_I_int, sm_I_mn, sm_I_mx, sm_I_add_u64, sm_I_sub_u64, sm_I_add_i64, sm_I_sub_i64, sm_I_mul_i64, sm_I_fn6, sm_I_fn7, sm_I_fn8, sm_B_bool, sm_B_eql, sm_B_lss, sm_B_not, sm_B_and, sm_B_imp, sm_B_iff]
  rintro ⟨p0, p1, p2, p3, p4, p5⟩
  try generalize E.I ρ (.var 6) = x0 at *
  try generalize E.I ρ (.var 3) = x1 at *
  try generalize E.I ρ (.var 2) = x2 at *
  have rx0 : 0 ≤ x0 ∧ x0 < 18446744073709551616 := by omega
  have rx1 : 0 ≤ x1 ∧ x1 < 18446744073709551616 := by omega
  have rx2 : 0 ≤ x2 ∧ x2 < 18446744073709551616 := by omega
  obtain ⟨y0, e0, q0, h0⟩ := cs_sub rx1 rx0
  try simp only [e0] at *
  obtain ⟨y1, e1, q1, h1⟩ := cs_min rx2 q0
  try simp only [e1] at *
  obtain ⟨y2, e2, q2, h2⟩ := cs_add rx0 q1
  try simp only [e2] at *
  omega
noncomputable def f23 : E := (.imp (.and (.not (.cmp .lss (.int 18446744073709551615) (.var 9))) (.and (.not (.cmp .lss (.var 9) (.int 0))) (.and (.not (.cmp .lss (.int 18446744073709551615) (.var 3))) (.and (.not (.cmp .lss (.var 3) (.int 0))) (.and (.not (.cmp .lss (.int 18446744073709551615) (.var 2))) (.not (.cmp .lss (.var 2) (.int 0)))))))) (.not (.cmp .lss (.int 18446744073709551615) (.ar .add .u64 (.var 9) (.mn (.var 2) (.ar .sub .u64 (.var 3) (.var 9)))))))
theorem fact23 (ρ : Env) : E.B ρ f23 = true := by
  unfold f23
  simp only [sm_I_int, sm_I_mn, sm_I_mx, sm_I_add_u64, sm_I_sub_u64, sm_I_add_i64, sm_I_sub_i64, sm_I_mul_i64, sm_I_fn6, sm_I_fn7, sm_I_fn8, sm_B_bool, sm_B_eql, sm_B_lss, sm_B_not, sm_B_and, sm_B_imp, sm_B_iff]
  rintro ⟨p0, p1, p2, p3, p4, p5⟩
  try generalize E.I ρ (.var 9) = x0 at *
  try generalize E.I ρ (.var 3) = x1 at *
  try generalize E.I ρ (.var 2) = x2 at *
  have rx0 : 0 ≤ x0 ∧ x0 < 18446744073709551616 := by omega
  have rx1 : 0 ≤ x1 ∧ x1 < 18446744073709551616 := by omega
  have rx2 : 0 ≤ x2 ∧ x2 < 18446744073709551616 := by omega
  obtain ⟨y0, e0, q0, h0⟩ := cs_sub rx1 rx0
  try simp only [e0] at *
  obtain ⟨y1, e1, q1, h1⟩ := cs_min rx2 q0
  try simp only [e1] at *
  obtain ⟨y2, e2, q2, h2⟩ := cs_add rx0 q1
  try simp only [e2] at *
  omega
noncomputable def f24 : E := (.imp (.and (.not (.cmp .lss (.var 3) (.var 6))) (.and (.not (.cmp .lss (.int 18446744073709551615) (.var 6))) (.and (.not (.cmp .lss (.var 6) (.int 0))) (.and (.not (.cmp .lss (.int 18446744073709551615) (.var 3))) (.and (.not (.cmp .lss (.var 3) (.int 0))) (.and (.not (.cmp .lss (.int 18446744073709551615) (.var 2))) (.not (.cmp .lss (.var 2) (.int 0))))))))) (.not (.cmp .lss (.var 3) (.ar .add .u64 (.var 6) (.mn (.var 2) (.ar .sub .u64 (.var 3) (.var 6)))))))
theorem fact24 (ρ : Env) : E.B ρ f24 = true := by
  unfold f24
  simp only [sm_I_int, sm_I_mn, sm_I_mx, sm_I_add_u64, sm_I_sub_u64, sm_I_add_i64, sm_I_sub_i64, sm_I_mul_i64, sm_I_fn6, sm_I_fn7, sm_I_fn8, sm_B_bool, sm_B_eql, sm_B_lss, sm_B_not, sm_B_and, sm_B_imp, sm_B_iff]
  rintro ⟨p0, p1, p2, p3, p4, p5, p6⟩
  try generalize E.I ρ (.var 3) = x0 at *
  try generalize E.I ρ (.var 6) = x1 at *
  try generalize E.I ρ (.var 2) = x2 at *
  have rx0 : 0 ≤ x0 ∧ x0 < 18446744073709551616 := by omega
  have rx1 : 0 ≤ x1 ∧ x1 < 18446744073709551616 := by omega
  have rx2 : 0 ≤ x2 ∧ x2 < 18446744073709551616 := by omega
  obtain ⟨y0, e0, q0, h0⟩ := cs_sub rx0 rx1
  try simp only [e0] at *
  obtain ⟨y1, e1, q1, h1⟩ := cs_min rx2 q0
  try simp only [e1] at *
  obtain ⟨y2, e2, q2, h2⟩ := cs_add rx1 q1
  try simp only [e2] at *
  omega
noncomputable def f25 : E := (.imp (.and (.not (.cmp .lss (.var 3) (.var 9))) (.and (.not (.cmp .lss (.int 18446744073709551615) (.var 9))) (.and (.not (.cmp .lss (.var 9) (.int 0))) (.and (.not (.cmp .lss (.int 18446744073709551615) (.var 3))) (.and (.not (.cmp .lss (.var 3) (.int 0))) (.and (.not (.cmp .lss (.int 18446744073709551615) (.var 2))) (.not (.cmp .lss (.var 2) (.int 0))))))))) (.not (.cmp .lss (.var 3) (.ar .add .u64 (.var 9) (.mn (.var 2) (.ar .sub .u64 (.var 3) (.var 9)))))))
theorem fact25 (ρ : Env) : E.B ρ f25 = true := by
  unfold f25
  simp only [sm_I_int, sm_I_mn, sm_I_mx, sm_I_add_u64, sm_I_sub_u64, sm_I_add_i64, sm_I_sub_i64, sm_I_mul_i64, sm_I_fn6, sm_I_fn7, sm_I_fn8, sm_B_bool, sm_B_eql, sm_B_lss, sm_B_not, sm_B_and, sm_B_imp, sm_B_iff]
  rintro ⟨p0, p1, p2, p3, p4, p5, p6⟩
  try generalize E.I ρ (.var 3) = x0 at *
  try generalize E.I ρ (.var 9) = x1 at *
  try generalize E.I ρ (.var 2) = x2 at *
  have rx0 : 0 ≤ x0 ∧ x0 < 18446744073709551616 := by omega
  have rx1 : 0 ≤ x1 ∧ x1 < 18446744073709551616 := by omega
  have rx2 : 0 ≤ x2 ∧ x2 < 18446744073709551616 := by omega
  obtain ⟨y0, e0, q0, h0⟩ := cs_sub rx0 rx1
  try simp only [e0] at *
  obtain ⟨y1, e1, q1, h1⟩ := cs_min rx2 q0
  try simp only [e1] at *
  obtain ⟨y2, e2, q2, h2⟩ := cs_add rx1 q1
  try simp only [e2] at *
  omega
noncomputable def f26 : E := (.imp (.and (.not (.cmp .lss (.int 18446744073709551615) (.var 12))) (.and (.not (.cmp .lss (.var 12) (.int 0))) (.and (.not (.cmp .lss (.int 18446744073709551615) (.var 5))) (.and (.not (.cmp .lss (.var 5) (.int 0))) (.and (.not (.cmp .lss (.int 18446744073709551615) (.var 0))) (.not (.cmp .lss (.var 0) (.int 0)))))))) (.not (.cmp .lss (.var 0) (.ar .sub .u64 (.var 0) (.mn (.ar .sub .u64 (.mx (.var 5) (.var 5)) (.var 12)) (.var 0))))))
theorem fact26 (ρ : Env) : E.B ρ f26 = true := by
  unfold f26
  simp only [sm_I_int, sm_I_mn, sm_I_mx, sm_I_add_u64, sm_I_sub_u64, sm_I_add_i64, sm_I_sub_i64, sm_I_mul_i64, sm_I_fn6, sm_I_fn7, sm_I_fn8, sm_B_bool, sm_B_eql, sm_B_lss, sm_B_not, sm_B_and, sm_B_imp, sm_B_iff]
  rintro ⟨p0, p1, p2, p3, p4, p5⟩
  try generalize E.I ρ (.var 12) = x0 at *
  try generalize E.I ρ (.var 5) = x1 at *
  try generalize E.I ρ (.var 0) = x2 at *
  have rx0 : 0 ≤ x0 ∧ x0 < 18446744073709551616 := by omega
  have rx1 : 0 ≤ x1 ∧ x1 < 18446744073709551616 := by omega
  have rx2 : 0 ≤ x2 ∧ x2 < 18446744073709551616 := by omega
  obtain ⟨y0, e0, q0, h0⟩ := cs_max rx1 rx1
  try simp only [e0] at *
  obtain ⟨y1, e1, q1, h1⟩ := cs_sub q0 rx0
  try simp only [e1] at *
  obtain ⟨y2, e2, q2, h2⟩ := cs_min q1 rx2
  try simp only [e2] at *
  obtain ⟨y3, e3, q3, h3⟩ := cs_sub rx2 q2
  try simp only [e3] at *
  omega
noncomputable def f27 : E := (.imp (.and (.not (.cmp .lss (.var 3) (.var 6))) (.and (.not (.cmp .lss (.int 18446744073709551615) (.var 12))) (.and (.not (.cmp .lss (.var 12) (.int 0))) (.and (.not (.cmp .lss (.int 18446744073709551615) (.var 6))) (.and (.not (.cmp .lss (.var 6) (.int 0))) (.and (.not (.cmp .lss (.int 18446744073709551615) (.var 5))) (.and (.not (.cmp .lss (.var 5) (.int 0))) (.and (.not (.cmp .lss (.int 18446744073709551615) (.var 3))) (.and (.not (.cmp .lss (.var 3) (.int 0))) (.and (.not (.cmp .lss (.int 18446744073709551615) (.var 0))) (.not (.cmp .lss (.var 0) (.int 0))))))))))))) (.not (.cmp .lss (.var 3) (.ar .sub .u64 (.var 6) (.mn (.ar .sub .u64 (.ar .sub .u64 (.mx (.var 5) (.var 5)) (.var 12)) (.mn (.ar .sub .u64 (.mx (.var 5) (.var 5)) (.var 12)) (.var 0))) (.var 6))))))
theorem fact27 (ρ : Env) : E.B ρ f27 = true := by
  unfold f27
  simp only [sm_I_int, sm_I_mn, sm_I_mx, sm_I_add_u64, sm_I_sub_u64, sm_I_add_i64, sm_I_sub_i64, sm_I_mul_i64, sm_I_fn6, sm_I_fn7, sm_I_fn8, sm_B_bool, sm_B_eql, sm_B_lss, sm_B_not, sm_B_and, sm_B_imp, sm_B_iff]
  rintro ⟨p0, p1, p2, p3, p4, p5, p6, p7, p8, p9, p10⟩
  try generalize E.I ρ (.var 3) = x0 at *
  try generalize E.I ρ (.var 6) = x1 at *
  try generalize E.I ρ (.var 12) = x2 at *
  try generalize E.I ρ (.var 5) = x3 at *
  try generalize E.I ρ (.var 0) = x4 at *
  have rx0 : 0 ≤ x0 ∧ x0 < 18446744073709551616 := by omega
  have rx1 : 0 ≤ x1 ∧ x1 < 18446744073709551616 := by omega
  have rx2 : 0 ≤ x2 ∧ x2 < 18446744073709551616 := by omega
  have rx3 : 0 ≤ x3 ∧ x3 < 18446744073709551616 := by omega
  have rx4 : 0 ≤ x4 ∧ x4 < 18446744073709551616 := by omega
  obtain ⟨y0, e0, q0, h0⟩ := cs_max rx3 rx3
  try simp only [e0] at *
  obtain ⟨y1, e1, q1, h1⟩ := cs_sub q0 rx2
  try simp only [e1] at *
  obtain ⟨y2, e2, q2, h2⟩ := cs_min q1 rx4
  try simp only [e2] at *
  obtain ⟨y3, e3, q3, h3⟩ := cs_sub q1 q2
  try simp only [e3] at *
  obtain ⟨y4, e4, q4, h4⟩ := cs_min q3 rx1
  try simp only [e4] at *
  obtain ⟨y5, e5, q5, h5⟩ := cs_sub rx1 q4
  try simp only [e5] at *
  omega
noncomputable def f28 : E := (.imp (.and (.not (.cmp .lss (.var 5) (.var 12))) (.and (.cmp .lss (.int 0) (.mn (.ar .sub .u64 (.ar .sub .u64 (.mx (.var 5) (.fn 1 (.pr (.var 4) (.fn 6 (.pr (.fn 8 (.pr (.var 13) (.int 3))) (.int 2)))))) (.var 12)) (.mn (.ar .sub .u64 (.mx (.var 5) (.fn 1 (.pr (.var 4) (.fn 6 (.pr (.fn 8 (.pr (.var 13) (.int 3))) (.int 2)))))) (.var 12)) (.var 0))) (.var 6))) (.and (.not (.cmp .eql (.ar .add .u64 (.ar .add .u64 (.var 12) (.mn (.var 0) (.ar .sub .u64 (.int 18446744073709551615) (.var 12)))) (.mn (.var 6) (.ar .sub .u64 (.int 18446744073709551615) (.ar .add .u64 (.var 12) (.mn (.var 0) (.ar .sub .u64 (.int 18446744073709551615) (.var 12))))))) (.int 18446744073709551615))) (.and (.not (.cmp .lss (.int 80) (.var 13))) (.and (.not (.cmp .lss (.var 13) (.int 0))) (.and (.not (.cmp .lss (.int 18446744073709551615) (.var 12))) (.and (.not (.cmp .lss (.var 12) (.int 0))) (.and (.not (.cmp .lss (.int 18446744073709551615) (.var 6))) (.and (.not (.cmp .lss (.var 6) (.int 0))) (.and (.not (.cmp .lss (.int 18446744073709551615) (.var 5))) (.and (.not (.cmp .lss (.var 5) (.int 0))) (.and (.not (.cmp .lss (.int 18446744073709551615) (.var 0))) (.and (.not (.cmp .lss (.var 0) (.int 0))) (.fn 27 (.pr (.fn 23 (.pr (.int 3) (.fn 23 (.pr (.int 3) (.fn 23 (.pr (.int 7) (.fn 10 (.int 0)))))))) (.var 4)))))))))))))))) (.iff (.not (.cmp .lss (.mx (.var 5) (.fn 1 (.pr (.var 4) (.fn 6 (.pr (.fn 8 (.pr (.var 13) (.int 3))) (.int 2)))))) (.ar .add .u64 (.ar .add .u64 (.var 12) (.mn (.var 0) (.ar .sub .u64 (.int 18446744073709551615) (.var 12)))) (.mn (.var 6) (.ar .sub .u64 (.int 18446744073709551615) (.ar .add .u64 (.var 12) (.mn (.var 0) (.ar .sub .u64 (.int 18446744073709551615) (.var 12))))))))) (.cmp .eql (.mn (.ar .sub .u64 (.ar .sub .u64 (.mx (.var 5) (.fn 1 (.pr (.var 4) (.fn 6 (.pr (.fn 8 (.pr (.var 13) (.int 3))) (.int 2)))))) (.var 12)) (.mn (.ar .sub .u64 (.mx (.var 5) (.fn 1 (.pr (.var 4) (.fn 6 (.pr (.fn 8 (.pr (.var 13) (.int 3))) (.int 2)))))) (.var 12)) (.var 0))) (.var 6)) (.var 6))))
theorem fact28 (ρ : Env) : E.B ρ f28 = true := by
  unfold f28
  simp only [sm_I_int, sm_I_mn, sm_I_mx, sm_I_add_u64, sm_I_sub_u64, sm_I_add_i64, sm_I_sub_i64, sm_I_mul_i64, sm_I_fn6, sm_I_fn7, sm_I_fn8, sm_B_bool, sm_B_eql, sm_B_lss, sm_B_not, sm_B_and, sm_B_imp, sm_B_iff]
  rintro ⟨p0, p1, p2, p3, p4, p5, p6, p7, p8, p9, p10, p11, p12, p13⟩
  have z0 := elem_range (i := (.var 13)) (w := 3) (j := 2) (k := 7) p13 rfl rfl (by decide) (by omega)
  clear p13
  simp only [kindLo, kindHi] at z0
  try generalize E.I ρ (.var 5) = x0 at *
  try generalize E.I ρ (.var 12) = x1 at *
  try generalize E.I ρ (.fn 1 (.pr (.var 4) (.fn 6 (.pr (.fn 8 (.pr (.var 13) (.int 3))) (.int 2))))) = x2 at *
  try generalize E.I ρ (.var 0) = x3 at *
  try generalize E.I ρ (.var 6) = x4 at *
  try generalize E.I ρ (.var 13) = x5 at *
  have rx0 : 0 ≤ x0 ∧ x0 < 18446744073709551616 := by omega
  have rx1 : 0 ≤ x1 ∧ x1 < 18446744073709551616 := by omega
  have rx2 : 0 ≤ x2 ∧ x2 < 18446744073709551616 := by omega
  have rx3 : 0 ≤ x3 ∧ x3 < 18446744073709551616 := by omega
  have rx4 : 0 ≤ x4 ∧ x4 < 18446744073709551616 := by omega
  obtain ⟨y0, e0, q0, h0⟩ := cs_max rx0 rx2
  try simp only [e0] at *
  obtain ⟨y1, e1, q1, h1⟩ := cs_sub q0 rx1
  try simp only [e1] at *
  obtain ⟨y2, e2, q2, h2⟩ := cs_min q1 rx3
  try simp only [e2] at *
  obtain ⟨y3, e3, q3, h3⟩ := cs_sub q1 q2
  try simp only [e3] at *
  obtain ⟨y4, e4, q4, h4⟩ := cs_min q3 rx4
  try simp only [e4] at *
  obtain ⟨y5, e5, q5, h5⟩ := cs_sub (by omega : (0:Int) ≤ 18446744073709551615 ∧ (18446744073709551615:Int) < 18446744073709551616) rx1
  try simp only [e5] at *
  obtain ⟨y6, e6, q6, h6⟩ := cs_min rx3 q5
  try simp only [e6] at *
  obtain ⟨y7, e7, q7, h7⟩ := cs_add rx1 q6
  try simp only [e7] at *
  obtain ⟨y8, e8, q8, h8⟩ := cs_sub (by omega : (0:Int) ≤ 18446744073709551615 ∧ (18446744073709551615:Int) < 18446744073709551616) q7
  try simp only [e8] at *
  obtain ⟨y9, e9, q9, h9⟩ := cs_min rx4 q8
  try simp only [e9] at *
  obtain ⟨y10, e10, q10, h10⟩ := cs_add q7 q9
  try simp only [e10] at *
  omega
noncomputable def f29 : E := (.imp (.and (.not (.cmp .lss (.int 80) (.var 13))) (.and (.not (.cmp .lss (.var 13) (.int 0))) (.and (.not (.cmp .lss (.int 18446744073709551615) (.var 12))) (.and (.not (.cmp .lss (.var 12) (.int 0))) (.and (.not (.cmp .lss (.int 18446744073709551615) (.var 6))) (.and (.not (.cmp .lss (.var 6) (.int 0))) (.and (.not (.cmp .lss (.int 18446744073709551615) (.var 5))) (.and (.not (.cmp .lss (.var 5) (.int 0))) (.and (.not (.cmp .lss (.int 18446744073709551615) (.var 0))) (.and (.not (.cmp .lss (.var 0) (.int 0))) (.fn 27 (.pr (.fn 23 (.pr (.int 3) (.fn 23 (.pr (.int 3) (.fn 23 (.pr (.int 7) (.fn 10 (.int 0)))))))) (.var 4))))))))))))) (.not (.cmp .lss (.ar .sub .u64 (.var 6) (.mn (.ar .sub .u64 (.ar .sub .u64 (.mx (.var 5) (.fn 1 (.pr (.var 4) (.fn 6 (.pr (.fn 8 (.pr (.var 13) (.int 3))) (.int 2)))))) (.var 12)) (.mn (.ar .sub .u64 (.mx (.var 5) (.fn 1 (.pr (.var 4) (.fn 6 (.pr (.fn 8 (.pr (.var 13) (.int 3))) (.int 2)))))) (.var 12)) (.var 0))) (.var 6))) (.int 0))))
theorem fact29 (ρ : Env) : E.B ρ f29 = true := by
  unfold f29
  simp only [sm_I_int, sm_I_mn, sm_I_mx, sm_I_add_u64, sm_I_sub_u64, sm_I_add_i64, sm_I_sub_i64, sm_I_mul_i64, sm_I_fn6, sm_I_fn7, sm_I_fn8, sm_B_bool, sm_B_eql, sm_B_lss, sm_B_not, sm_B_and, sm_B_imp, sm_B_iff]
  rintro ⟨p0, p1, p2, p3, p4, p5, p6, p7, p8, p9, p10⟩
  have z0 := elem_range (i := (.var 13)) (w := 3) (j := 2) (k := 7) p10 rfl rfl (by decide) (by omega)
  clear p10
  simp only [kindLo, kindHi] at z0
  try generalize E.I ρ (.var 13) = x0 at *
  try generalize E.I ρ (.var 12) = x1 at *
  try generalize E.I ρ (.var 6) = x2 at *
  try generalize E.I ρ (.var 5) = x3 at *
  try generalize E.I ρ (.var 0) = x4 at *
  try generalize E.I ρ (.fn 1 (.pr (.var 4) (.fn 6 (.pr (.fn 8 (.pr (.var 13) (.int 3))) (.int 2))))) = x5 at *
  have rx1 : 0 ≤ x1 ∧ x1 < 18446744073709551616 := by omega
  have rx2 : 0 ≤ x2 ∧ x2 < 18446744073709551616 := by omega
  have rx3 : 0 ≤ x3 ∧ x3 < 18446744073709551616 := by omega
  have rx4 : 0 ≤ x4 ∧ x4 < 18446744073709551616 := by omega
  have rx5 : 0 ≤ x5 ∧ x5 < 18446744073709551616 := by omega
  obtain ⟨y0, e0, q0, h0⟩ := cs_max rx3 rx5
  try simp only [e0] at *
  obtain ⟨y1, e1, q1, h1⟩ := cs_sub q0 rx1
  try simp only [e1] at *
  obtain ⟨y2, e2, q2, h2⟩ := cs_min q1 rx4
  try simp only [e2] at *
  obtain ⟨y3, e3, q3, h3⟩ := cs_sub q1 q2
  try simp only [e3] at *
  obtain ⟨y4, e4, q4, h4⟩ := cs_min q3 rx2
  try simp only [e4] at *
  obtain ⟨y5, e5, q5, h5⟩ := cs_sub rx2 q4
  try simp only [e5] at *
  omega
noncomputable def f30 : E := (.imp (.and (.not (.cmp .lss (.int 80) (.var 13))) (.and (.not (.cmp .lss (.var 13) (.int 0))) (.and (.not (.cmp .lss (.int 18446744073709551615) (.var 12))) (.and (.not (.cmp .lss (.var 12) (.int 0))) (.and (.not (.cmp .lss (.int 18446744073709551615) (.var 6))) (.and (.not (.cmp .lss (.var 6) (.int 0))) (.and (.not (.cmp .lss (.int 18446744073709551615) (.var 5))) (.and (.not (.cmp .lss (.var 5) (.int 0))) (.and (.not (.cmp .lss (.int 18446744073709551615) (.var 0))) (.and (.not (.cmp .lss (.var 0) (.int 0))) (.fn 27 (.pr (.fn 23 (.pr (.int 3) (.fn 23 (.pr (.int 3) (.fn 23 (.pr (.int 7) (.fn 10 (.int 0)))))))) (.var 4))))))))))))) (.cmp .eql (.ar .sub .u64 (.ar .sub .u64 (.var 6) (.mn (.ar .sub .u64 (.ar .sub .u64 (.mx (.var 5) (.fn 1 (.pr (.var 4) (.fn 6 (.pr (.fn 8 (.pr (.var 13) (.int 3))) (.int 2)))))) (.var 12)) (.mn (.ar .sub .u64 (.mx (.var 5) (.fn 1 (.pr (.var 4) (.fn 6 (.pr (.fn 8 (.pr (.var 13) (.int 3))) (.int 2)))))) (.var 12)) (.var 0))) (.var 6))) (.int 0)) (.ar .sub .u64 (.var 6) (.mn (.ar .sub .u64 (.ar .sub .u64 (.mx (.var 5) (.fn 1 (.pr (.var 4) (.fn 6 (.pr (.fn 8 (.pr (.var 13) (.int 3))) (.int 2)))))) (.var 12)) (.mn (.ar .sub .u64 (.mx (.var 5) (.fn 1 (.pr (.var 4) (.fn 6 (.pr (.fn 8 (.pr (.var 13) (.int 3))) (.int 2)))))) (.var 12)) (.var 0))) (.var 6)))))
theorem fact30 (ρ : Env) : E.B ρ f30 = true := by
  unfold f30
  simp only [sm_I_int, sm_I_mn, sm_I_mx, sm_I_add_u64, sm_I_sub_u64, sm_I_add_i64, sm_I_sub_i64, sm_I_mul_i64, sm_I_fn6, sm_I_fn7, sm_I_fn8, sm_B_bool, sm_B_eql, sm_B_lss, sm_B_not, sm_B_and, sm_B_imp, sm_B_iff]
  rintro ⟨p0, p1, p2, p3, p4, p5, p6, p7, p8, p9, p10⟩
  have z0 := elem_range (i := (.var 13)) (w := 3) (j := 2) (k := 7) p10 rfl rfl (by decide) (by omega)
  clear p10
  simp only [kindLo, kindHi] at z0
  try generalize E.I ρ (.var 13) = x0 at *
  try generalize E.I ρ (.var 12) = x1 at *
  try generalize E.I ρ (.var 6) = x2 at *
  try generalize E.I ρ (.var 5) = x3 at *
  try generalize E.I ρ (.var 0) = x4 at *
  try generalize E.I ρ (.fn 1 (.pr (.var 4) (.fn 6 (.pr (.fn 8 (.pr (.var 13) (.int 3))) (.int 2))))) = x5 at *
  have rx1 : 0 ≤ x1 ∧ x1 < 18446744073709551616 := by omega
  have rx2 : 0 ≤ x2 ∧ x2 < 18446744073709551616 := by omega
  have rx3 : 0 ≤ x3 ∧ x3 < 18446744073709551616 := by omega
  have rx4 : 0 ≤ x4 ∧ x4 < 18446744073709551616 := by omega
  have rx5 : 0 ≤ x5 ∧ x5 < 18446744073709551616 := by omega
  obtain ⟨y0, e0, q0, h0⟩ := cs_max rx3 rx5
  try simp only [e0] at *
  obtain ⟨y1, e1, q1, h1⟩ := cs_sub q0 rx1
  try simp only [e1] at *
  obtain ⟨y2, e2, q2, h2⟩ := cs_min q1 rx4
  try simp only [e2] at *
  obtain ⟨y3, e3, q3, h3⟩ := cs_sub q1 q2
  try simp only [e3] at *
  obtain ⟨y4, e4, q4, h4⟩ := cs_min q3 rx2
  try simp only [e4] at *
  obtain ⟨y5, e5, q5, h5⟩ := cs_sub rx2 q4
  try simp only [e5] at *
  obtain ⟨y6, e6, q6, h6⟩ := cs_sub q5 (by omega : (0:Int) ≤ 0 ∧ (0:Int) < 18446744073709551616)
  try simp only [e6] at *
  omega
noncomputable def f31 : E := (.imp (.and (.not (.cmp .lss (.var 3) (.var 6))) (.and (.not (.cmp .lss (.int 80) (.var 13))) (.and (.not (.cmp .lss (.var 13) (.int 0))) (.and (.not (.cmp .lss (.int 18446744073709551615) (.var 12))) (.and (.not (.cmp .lss (.var 12) (.int 0))) (.and (.not (.cmp .lss (.int 18446744073709551615) (.var 6))) (.and (.not (.cmp .lss (.var 6) (.int 0))) (.and (.not (.cmp .lss (.int 18446744073709551615) (.var 5))) (.and (.not (.cmp .lss (.var 5) (.int 0))) (.and (.not (.cmp .lss (.int 18446744073709551615) (.var 3))) (.and (.not (.cmp .lss (.var 3) (.int 0))) (.and (.not (.cmp .lss (.int 18446744073709551615) (.var 0))) (.and (.not (.cmp .lss (.var 0) (.int 0))) (.fn 27 (.pr (.fn 23 (.pr (.int 3) (.fn 23 (.pr (.int 3) (.fn 23 (.pr (.int 7) (.fn 10 (.int 0)))))))) (.var 4)))))))))))))))) (.not (.cmp .lss (.var 3) (.ar .sub .u64 (.ar .sub .u64 (.var 6) (.mn (.ar .sub .u64 (.ar .sub .u64 (.mx (.var 5) (.fn 1 (.pr (.var 4) (.fn 6 (.pr (.fn 8 (.pr (.var 13) (.int 3))) (.int 2)))))) (.var 12)) (.mn (.ar .sub .u64 (.mx (.var 5) (.fn 1 (.pr (.var 4) (.fn 6 (.pr (.fn 8 (.pr (.var 13) (.int 3))) (.int 2)))))) (.var 12)) (.var 0))) (.var 6))) (.int 0)))))
theorem fact31 (ρ : Env) : E.B ρ f31 = true := by
  unfold f31
  simp only [sm_I_int, sm_I_mn, sm_I_mx, sm_I_add_u64, sm_I_sub_u64, sm_I_add_i64, sm_I_sub_i64, sm_I_mul_i64, sm_I_fn6, sm_I_fn7, sm_I_fn8, sm_B_bool, sm_B_eql, sm_B_lss, sm_B_not, sm_B_and, sm_B_imp, sm_B_iff]
  rintro ⟨p0, p1, p2, p3, p4, p5, p6, p7, p8, p9, p10, p11, p12, p13⟩
  have z0 := elem_range (i := (.var 13)) (w := 3) (j := 2) (k := 7) p13 rfl rfl (by decide) (by omega)
  clear p13
  simp only [kindLo, kindHi] at z0
  try generalize E.I ρ (.var 3) = x0 at *
  try generalize E.I ρ (.var 6) = x1 at *
  try generalize E.I ρ (.var 13) = x2 at *
  try generalize E.I ρ (.var 12) = x3 at *
  try generalize E.I ρ (.var 5) = x4 at *
  try generalize E.I ρ (.var 0) = x5 at *
  try generalize E.I ρ (.fn 1 (.pr (.var 4) (.fn 6 (.pr (.fn 8 (.pr (.var 13) (.int 3))) (.int 2))))) = x6 at *
  have rx0 : 0 ≤ x0 ∧ x0 < 18446744073709551616 := by omega
  have rx1 : 0 ≤ x1 ∧ x1 < 18446744073709551616 := by omega
  have rx3 : 0 ≤ x3 ∧ x3 < 18446744073709551616 := by omega
  have rx4 : 0 ≤ x4 ∧ x4 < 18446744073709551616 := by omega
  have rx5 : 0 ≤ x5 ∧ x5 < 18446744073709551616 := by omega
  have rx6 : 0 ≤ x6 ∧ x6 < 18446744073709551616 := by omega
  obtain ⟨y0, e0, q0, h0⟩ := cs_max rx4 rx6
  try simp only [e0] at *
  obtain ⟨y1, e1, q1, h1⟩ := cs_sub q0 rx3
  try simp only [e1] at *
  obtain ⟨y2, e2, q2, h2⟩ := cs_min q1 rx5
  try simp only [e2] at *
  obtain ⟨y3, e3, q3, h3⟩ := cs_sub q1 q2
  try simp only [e3] at *
  obtain ⟨y4, e4, q4, h4⟩ := cs_min q3 rx1
  try simp only [e4] at *
  obtain ⟨y5, e5, q5, h5⟩ := cs_sub rx1 q4
  try simp only [e5] at *
  obtain ⟨y6, e6, q6, h6⟩ := cs_sub q5 (by omega : (0:Int) ≤ 0 ∧ (0:Int) < 18446744073709551616)
  try simp only [e6] at *
  omega
noncomputable def f32 : E := (.imp (.and (.cmp .lss (.int 0) (.mn (.ar .sub .u64 (.ar .sub .u64 (.mx (.var 5) (.fn 1 (.pr (.var 4) (.fn 6 (.pr (.fn 8 (.pr (.var 13) (.int 3))) (.int 2)))))) (.var 12)) (.mn (.ar .sub .u64 (.mx (.var 5) (.fn 1 (.pr (.var 4) (.fn 6 (.pr (.fn 8 (.pr (.var 13) (.int 3))) (.int 2)))))) (.var 12)) (.var 0))) (.var 6))) (.and (.not (.cmp .eql (.mn (.ar .sub .u64 (.mx (.var 5) (.fn 1 (.pr (.var 4) (.fn 6 (.pr (.fn 8 (.pr (.var 13) (.int 3))) (.int 2)))))) (.var 12)) (.var 0)) (.var 0))) (.and (.not (.cmp .lss (.int 80) (.var 13))) (.and (.not (.cmp .lss (.var 13) (.int 0))) (.and (.not (.cmp .lss (.int 18446744073709551615) (.var 12))) (.and (.not (.cmp .lss (.var 12) (.int 0))) (.and (.not (.cmp .lss (.int 18446744073709551615) (.var 6))) (.and (.not (.cmp .lss (.var 6) (.int 0))) (.and (.not (.cmp .lss (.int 18446744073709551615) (.var 5))) (.and (.not (.cmp .lss (.var 5) (.int 0))) (.and (.not (.cmp .lss (.int 18446744073709551615) (.var 0))) (.and (.not (.cmp .lss (.var 0) (.int 0))) (.fn 27 (.pr (.fn 23 (.pr (.int 3) (.fn 23 (.pr (.int 3) (.fn 23 (.pr (.int 7) (.fn 10 (.int 0)))))))) (.var 4))))))))))))))) (.cmp .lss (.mx (.var 5) (.fn 1 (.pr (.var 4) (.fn 6 (.pr (.fn 8 (.pr (.var 13) (.int 3))) (.int 2)))))) (.ar .add .u64 (.ar .add .u64 (.var 12) (.mn (.var 0) (.ar .sub .u64 (.int 18446744073709551615) (.var 12)))) (.mn (.var 6) (.ar .sub .u64 (.int 18446744073709551615) (.ar .add .u64 (.var 12) (.mn (.var 0) (.ar .sub .u64 (.int 18446744073709551615) (.var 12)))))))))
theorem fact32 (ρ : Env) : E.B ρ f32 = true := by
  unfold f32
  simp only [sm_I_int, sm_I_mn, sm_I_mx, sm_I_add_u64, sm_I_sub_u64, sm_I_add_i64, sm_I_sub_i64, sm_I_mul_i64, sm_I_fn6, sm_I_fn7, sm_I_fn8, sm_B_bool, sm_B_eql, sm_B_lss, sm_B_not, sm_B_and, sm_B_imp, sm_B_iff]
  rintro ⟨p0, p1, p2, p3, p4, p5, p6, p7, p8, p9, p10, p11, p12⟩
  have z0 := elem_range (i := (.var 13)) (w := 3) (j := 2) (k := 7) p12 rfl rfl (by decide) (by omega)
  clear p12
  simp only [kindLo, kindHi] at z0
  try generalize E.I ρ (.var 5) = x0 at *
  try generalize E.I ρ (.fn 1 (.pr (.var 4) (.fn 6 (.pr (.fn 8 (.pr (.var 13) (.int 3))) (.int 2))))) = x1 at *
  try generalize E.I ρ (.var 12) = x2 at *
  try generalize E.I ρ (.var 0) = x3 at *
  try generalize E.I ρ (.var 6) = x4 at *
  try generalize E.I ρ (.var 13) = x5 at *
  have rx0 : 0 ≤ x0 ∧ x0 < 18446744073709551616 := by omega
  have rx1 : 0 ≤ x1 ∧ x1 < 18446744073709551616 := by omega
  have rx2 : 0 ≤ x2 ∧ x2 < 18446744073709551616 := by omega
  have rx3 : 0 ≤ x3 ∧ x3 < 18446744073709551616 := by omega
  have rx4 : 0 ≤ x4 ∧ x4 < 18446744073709551616 := by omega
  obtain ⟨y0, e0, q0, h0⟩ := cs_max rx0 rx1
  try simp only [e0] at *
  obtain ⟨y1, e1, q1, h1⟩ := cs_sub q0 rx2
  try simp only [e1] at *
  obtain ⟨y2, e2, q2, h2⟩ := cs_min q1 rx3
  try simp only [e2] at *
  obtain ⟨y3, e3, q3, h3⟩ := cs_sub q1 q2
  try simp only [e3] at *
  obtain ⟨y4, e4, q4, h4⟩ := cs_min q3 rx4
  try simp only [e4] at *
  obtain ⟨y5, e5, q5, h5⟩ := cs_sub (by omega : (0:Int) ≤ 18446744073709551615 ∧ (18446744073709551615:Int) < 18446744073709551616) rx2
  try simp only [e5] at *
  obtain ⟨y6, e6, q6, h6⟩ := cs_min rx3 q5
  try simp only [e6] at *
  obtain ⟨y7, e7, q7, h7⟩ := cs_add rx2 q6
  try simp only [e7] at *
  obtain ⟨y8, e8, q8, h8⟩ := cs_sub (by omega : (0:Int) ≤ 18446744073709551615 ∧ (18446744073709551615:Int) < 18446744073709551616) q7
  try simp only [e8] at *
  obtain ⟨y9, e9, q9, h9⟩ := cs_min rx4 q8
  try simp only [e9] at *
  obtain ⟨y10, e10, q10, h10⟩ := cs_add q7 q9
  try simp only [e10] at *
  omega
noncomputable def f33 : E := (.imp (.and (.cmp .lss (.int 0) (.mn (.ar .sub .u64 (.ar .sub .u64 (.mx (.var 5) (.fn 1 (.pr (.var 4) (.fn 6 (.pr (.fn 8 (.pr (.var 13) (.int 3))) (.int 2)))))) (.var 12)) (.mn (.ar .sub .u64 (.mx (.var 5) (.fn 1 (.pr (.var 4) (.fn 6 (.pr (.fn 8 (.pr (.var 13) (.int 3))) (.int 2)))))) (.var 12)) (.var 0))) (.var 6))) (.and (.not (.cmp .lss (.int 80) (.var 13))) (.and (.not (.cmp .lss (.var 13) (.int 0))) (.and (.not (.cmp .lss (.int 18446744073709551615) (.var 12))) (.and (.not (.cmp .lss (.var 12) (.int 0))) (.and (.not (.cmp .lss (.int 18446744073709551615) (.var 6))) (.and (.not (.cmp .lss (.var 6) (.int 0))) (.and (.not (.cmp .lss (.int 18446744073709551615) (.var 5))) (.and (.not (.cmp .lss (.var 5) (.int 0))) (.and (.not (.cmp .lss (.int 18446744073709551615) (.var 0))) (.and (.not (.cmp .lss (.var 0) (.int 0))) (.fn 27 (.pr (.fn 23 (.pr (.int 3) (.fn 23 (.pr (.int 3) (.fn 23 (.pr (.int 7) (.fn 10 (.int 0)))))))) (.var 4)))))))))))))) (.not (.cmp .lss (.mn (.ar .sub .u64 (.mx (.var 5) (.fn 1 (.pr (.var 4) (.fn 6 (.pr (.fn 8 (.pr (.var 13) (.int 3))) (.int 2)))))) (.var 12)) (.var 0)) (.var 0))))
theorem fact33 (ρ : Env) : E.B ρ f33 = true := by
  unfold f33
  simp only [sm_I_int, sm_I_mn, sm_I_mx, sm_I_add_u64, sm_I_sub_u64, sm_I_add_i64, sm_I_sub_i64, sm_I_mul_i64, sm_I_fn6, sm_I_fn7, sm_I_fn8, sm_B_bool, sm_B_eql, sm_B_lss, sm_B_not, sm_B_and, sm_B_imp, sm_B_iff]
  rintro ⟨p0, p1, p2, p3, p4, p5, p6, p7, p8, p9, p10, p11⟩
  have z0 := elem_range (i := (.var 13)) (w := 3) (j := 2) (k := 7) p11 rfl rfl (by decide) (by omega)
  clear p11
  simp only [kindLo, kindHi] at z0
  try generalize E.I ρ (.var 5) = x0 at *
  try generalize E.I ρ (.fn 1 (.pr (.var 4) (.fn 6 (.pr (.fn 8 (.pr (.var 13) (.int 3))) (.int 2))))) = x1 at *
  try generalize E.I ρ (.var 12) = x2 at *
  try generalize E.I ρ (.var 0) = x3 at *
  try generalize E.I ρ (.var 6) = x4 at *
  try generalize E.I ρ (.var 13) = x5 at *
  have rx0 : 0 ≤ x0 ∧ x0 < 18446744073709551616 := by omega
  have rx1 : 0 ≤ x1 ∧ x1 < 18446744073709551616 := by omega
  have rx2 : 0 ≤ x2 ∧ x2 < 18446744073709551616 := by omega
  have rx3 : 0 ≤ x3 ∧ x3 < 18446744073709551616 := by omega
  have rx4 : 0 ≤ x4 ∧ x4 < 18446744073709551616 := by omega
  obtain ⟨y0, e0, q0, h0⟩ := cs_max rx0 rx1
  try simp only [e0] at *
  obtain ⟨y1, e1, q1, h1⟩ := cs_sub q0 rx2
  try simp only [e1] at *
  obtain ⟨y2, e2, q2, h2⟩ := cs_min q1 rx3
  try simp only [e2] at *
  obtain ⟨y3, e3, q3, h3⟩ := cs_sub q1 q2
  try simp only [e3] at *
  obtain ⟨y4, e4, q4, h4⟩ := cs_min q3 rx4
  try simp only [e4] at *
  omega
noncomputable def f34 : E := (.imp (.and (.not (.cmp .lss (.var 5) (.var 12))) (.and (.not (.cmp .eql (.ar .add .u64 (.ar .add .u64 (.var 12) (.mn (.var 0) (.ar .sub .u64 (.int 18446744073709551615) (.var 12)))) (.mn (.var 6) (.ar .sub .u64 (.int 18446744073709551615) (.ar .add .u64 (.var 12) (.mn (.var 0) (.ar .sub .u64 (.int 18446744073709551615) (.var 12))))))) (.int 18446744073709551615))) (.and (.cmp .eql (.mn (.ar .sub .u64 (.mx (.var 5) (.fn 1 (.pr (.var 4) (.fn 6 (.pr (.fn 8 (.pr (.var 13) (.int 3))) (.int 2)))))) (.var 12)) (.var 0)) (.var 0)) (.and (.not (.cmp .lss (.int 80) (.var 13))) (.and (.not (.cmp .lss (.var 13) (.int 0))) (.and (.not (.cmp .lss (.int 18446744073709551615) (.var 12))) (.and (.not (.cmp .lss (.var 12) (.int 0))) (.and (.not (.cmp .lss (.int 18446744073709551615) (.var 6))) (.and (.not (.cmp .lss (.var 6) (.int 0))) (.and (.not (.cmp .lss (.int 18446744073709551615) (.var 5))) (.and (.not (.cmp .lss (.var 5) (.int 0))) (.and (.not (.cmp .lss (.int 18446744073709551615) (.var 0))) (.and (.not (.cmp .lss (.var 0) (.int 0))) (.fn 27 (.pr (.fn 23 (.pr (.int 3) (.fn 23 (.pr (.int 3) (.fn 23 (.pr (.int 7) (.fn 10 (.int 0)))))))) (.var 4)))))))))))))))) (.iff (.not (.cmp .lss (.mx (.var 5) (.fn 1 (.pr (.var 4) (.fn 6 (.pr (.fn 8 (.pr (.var 13) (.int 3))) (.int 2)))))) (.ar .add .u64 (.ar .add .u64 (.var 12) (.mn (.var 0) (.ar .sub .u64 (.int 18446744073709551615) (.var 12)))) (.mn (.var 6) (.ar .sub .u64 (.int 18446744073709551615) (.ar .add .u64 (.var 12) (.mn (.var 0) (.ar .sub .u64 (.int 18446744073709551615) (.var 12))))))))) (.cmp .eql (.mn (.ar .sub .u64 (.ar .sub .u64 (.mx (.var 5) (.fn 1 (.pr (.var 4) (.fn 6 (.pr (.fn 8 (.pr (.var 13) (.int 3))) (.int 2)))))) (.var 12)) (.mn (.ar .sub .u64 (.mx (.var 5) (.fn 1 (.pr (.var 4) (.fn 6 (.pr (.fn 8 (.pr (.var 13) (.int 3))) (.int 2)))))) (.var 12)) (.var 0))) (.var 6)) (.var 6))))
theorem fact34 (ρ : Env) : E.B ρ f34 = true := by
  unfold f34
  simp only [sm_I_int, sm_I_mn, sm_I_mx, sm_I_add_u64, sm_I_sub_u64, sm_I_add_i64, sm_I_sub_i64, sm_I_mul_i64, sm_I_fn6, sm_I_fn7, sm_I_fn8, sm_B_bool, sm_B_eql, sm_B_lss, sm_B_not, sm_B_and, sm_B_imp, sm_B_iff]
  rintro ⟨p0, p1, p2, p3, p4, p5, p6, p7, p8, p9, p10, p11, p12, p13⟩
  have z0 := elem_range (i := (.var 13)) (w := 3) (j := 2) (k := 7) p13 rfl rfl (by decide) (by omega)
  clear p13
  simp only [kindLo, kindHi] at z0
  try generalize E.I ρ (.var 5) = x0 at *
  try generalize E.I ρ (.var 12) = x1 at *
  try generalize E.I ρ (.var 0) = x2 at *
  try generalize E.I ρ (.var 6) = x3 at *
  try generalize E.I ρ (.fn 1 (.pr (.var 4) (.fn 6 (.pr (.fn 8 (.pr (.var 13) (.int 3))) (.int 2))))) = x4 at *
  try generalize E.I ρ (.var 13) = x5 at *
  have rx0 : 0 ≤ x0 ∧ x0 < 18446744073709551616 := by omega
  have rx1 : 0 ≤ x1 ∧ x1 < 18446744073709551616 := by omega
  have rx2 : 0 ≤ x2 ∧ x2 < 18446744073709551616 := by omega
  have rx3 : 0 ≤ x3 ∧ x3 < 18446744073709551616 := by omega
  have rx4 : 0 ≤ x4 ∧ x4 < 18446744073709551616 := by omega
  obtain ⟨y0, e0, q0, h0⟩ := cs_sub (by omega : (0:Int) ≤ 18446744073709551615 ∧ (18446744073709551615:Int) < 18446744073709551616) rx1
  try simp only [e0] at *
  obtain ⟨y1, e1, q1, h1⟩ := cs_min rx2 q0
  try simp only [e1] at *
  obtain ⟨y2, e2, q2, h2⟩ := cs_add rx1 q1
  try simp only [e2] at *
  obtain ⟨y3, e3, q3, h3⟩ := cs_sub (by omega : (0:Int) ≤ 18446744073709551615 ∧ (18446744073709551615:Int) < 18446744073709551616) q2
  try simp only [e3] at *
  obtain ⟨y4, e4, q4, h4⟩ := cs_min rx3 q3
  try simp only [e4] at *
  obtain ⟨y5, e5, q5, h5⟩ := cs_add q2 q4
  try simp only [e5] at *
  obtain ⟨y6, e6, q6, h6⟩ := cs_max rx0 rx4
  try simp only [e6] at *
  obtain ⟨y7, e7, q7, h7⟩ := cs_sub q6 rx1
  try simp only [e7] at *
  obtain ⟨y8, e8, q8, h8⟩ := cs_min q7 rx2
  try simp only [e8] at *
  obtain ⟨y9, e9, q9, h9⟩ := cs_sub q7 q8
  try simp only [e9] at *
  obtain ⟨y10, e10, q10, h10⟩ := cs_min q9 rx3
  try simp only [e10] at *
  omega
noncomputable def f35 : E := (.imp (.and (.not (.cmp .eql (.ar .add .u64 (.ar .add .u64 (.var 12) (.mn (.var 0) (.ar .sub .u64 (.int 18446744073709551615) (.var 12)))) (.mn (.var 6) (.ar .sub .u64 (.int 18446744073709551615) (.ar .add .u64 (.var 12) (.mn (.var 0) (.ar .sub .u64 (.int 18446744073709551615) (.var 12))))))) (.int 18446744073709551615))) (.and (.not (.cmp .eql (.mn (.ar .sub .u64 (.mx (.var 5) (.fn 1 (.pr (.var 4) (.fn 6 (.pr (.fn 8 (.pr (.var 13) (.int 3))) (.int 2)))))) (.var 12)) (.var 0)) (.var 0))) (.and (.not (.cmp .lss (.int 80) (.var 13))) (.and (.not (.cmp .lss (.var 13) (.int 0))) (.and (.not (.cmp .lss (.int 18446744073709551615) (.var 12))) (.and (.not (.cmp .lss (.var 12) (.int 0))) (.and (.not (.cmp .lss (.int 18446744073709551615) (.var 6))) (.and (.not (.cmp .lss (.var 6) (.int 0))) (.and (.not (.cmp .lss (.int 18446744073709551615) (.var 5))) (.and (.not (.cmp .lss (.var 5) (.int 0))) (.and (.not (.cmp .lss (.int 18446744073709551615) (.var 0))) (.and (.not (.cmp .lss (.var 0) (.int 0))) (.fn 27 (.pr (.fn 23 (.pr (.int 3) (.fn 23 (.pr (.int 3) (.fn 23 (.pr (.int 7) (.fn 10 (.int 0)))))))) (.var 4))))))))))))))) (.cmp .lss (.mx (.var 5) (.fn 1 (.pr (.var 4) (.fn 6 (.pr (.fn 8 (.pr (.var 13) (.int 3))) (.int 2)))))) (.ar .add .u64 (.ar .add .u64 (.var 12) (.mn (.var 0) (.ar .sub .u64 (.int 18446744073709551615) (.var 12)))) (.mn (.var 6) (.ar .sub .u64 (.int 18446744073709551615) (.ar .add .u64 (.var 12) (.mn (.var 0) (.ar .sub .u64 (.int 18446744073709551615) (.var 12)))))))))
theorem fact35 (ρ : Env) : E.B ρ f35 = true := by
  unfold f35
  simp only [sm_I_int, sm_I_mn, sm_I_mx, sm_I_add_u64, sm_I_sub_u64, sm_I_add_i64, sm_I_sub_i64, sm_I_mul_i64, sm_I_fn6, sm_I_fn7, sm_I_fn8, sm_B_bool, sm_B_eql, sm_B_lss, sm_B_not, sm_B_and, sm_B_imp, sm_B_iff]
  rintro ⟨p0, p1, p2, p3, p4, p5, p6, p7, p8, p9, p10, p11, p12⟩
  have z0 := elem_range (i := (.var 13)) (w := 3) (j := 2) (k := 7) p12 rfl rfl (by decide) (by omega)
  clear p12
  simp only [kindLo, kindHi] at z0
  try generalize E.I ρ (.var 12) = x0 at *
  try generalize E.I ρ (.var 0) = x1 at *
  try generalize E.I ρ (.var 6) = x2 at *
  try generalize E.I ρ (.var 5) = x3 at *
  try generalize E.I ρ (.fn 1 (.pr (.var 4) (.fn 6 (.pr (.fn 8 (.pr (.var 13) (.int 3))) (.int 2))))) = x4 at *
  try generalize E.I ρ (.var 13) = x5 at *
  have rx0 : 0 ≤ x0 ∧ x0 < 18446744073709551616 := by omega
  have rx1 : 0 ≤ x1 ∧ x1 < 18446744073709551616 := by omega
  have rx2 : 0 ≤ x2 ∧ x2 < 18446744073709551616 := by omega
  have rx3 : 0 ≤ x3 ∧ x3 < 18446744073709551616 := by omega
  have rx4 : 0 ≤ x4 ∧ x4 < 18446744073709551616 := by omega
  obtain ⟨y0, e0, q0, h0⟩ := cs_sub (by omega : (0:Int) ≤ 18446744073709551615 ∧ (18446744073709551615:Int) < 18446744073709551616) rx0
  try simp only [e0] at *
  obtain ⟨y1, e1, q1, h1⟩ := cs_min rx1 q0
  try simp only [e1] at *
  obtain ⟨y2, e2, q2, h2⟩ := cs_add rx0 q1
  try simp only [e2] at *
  obtain ⟨y3, e3, q3, h3⟩ := cs_sub (by omega : (0:Int) ≤ 18446744073709551615 ∧ (18446744073709551615:Int) < 18446744073709551616) q2
  try simp only [e3] at *
  obtain ⟨y4, e4, q4, h4⟩ := cs_min rx2 q3
  try simp only [e4] at *
  obtain ⟨y5, e5, q5, h5⟩ := cs_add q2 q4
  try simp only [e5] at *
  obtain ⟨y6, e6, q6, h6⟩ := cs_max rx3 rx4
  try simp only [e6] at *
  obtain ⟨y7, e7, q7, h7⟩ := cs_sub q6 rx0
  try simp only [e7] at *
  obtain ⟨y8, e8, q8, h8⟩ := cs_min q7 rx1
  try simp only [e8] at *
  omega
noncomputable def f36 : E := (.imp (.and (.not (.cmp .lss (.int 80) (.var 13))) (.and (.not (.cmp .lss (.var 13) (.int 0))) (.and (.not (.cmp .lss (.int 18446744073709551615) (.var 12))) (.and (.not (.cmp .lss (.var 12) (.int 0))) (.and (.not (.cmp .lss (.int 18446744073709551615) (.var 6))) (.and (.not (.cmp .lss (.var 6) (.int 0))) (.and (.not (.cmp .lss (.int 18446744073709551615) (.var 5))) (.and (.not (.cmp .lss (.var 5) (.int 0))) (.and (.not (.cmp .lss (.int 18446744073709551615) (.var 0))) (.and (.not (.cmp .lss (.var 0) (.int 0))) (.fn 27 (.pr (.fn 23 (.pr (.int 3) (.fn 23 (.pr (.int 3) (.fn 23 (.pr (.int 7) (.fn 10 (.int 0)))))))) (.var 4))))))))))))) (.not (.cmp .lss (.var 6) (.mn (.ar .sub .u64 (.ar .sub .u64 (.mx (.var 5) (.fn 1 (.pr (.var 4) (.fn 6 (.pr (.fn 8 (.pr (.var 13) (.int 3))) (.int 2)))))) (.var 12)) (.mn (.ar .sub .u64 (.mx (.var 5) (.fn 1 (.pr (.var 4) (.fn 6 (.pr (.fn 8 (.pr (.var 13) (.int 3))) (.int 2)))))) (.var 12)) (.var 0))) (.var 6)))))
theorem fact36 (ρ : Env) : E.B ρ f36 = true := by
  unfold f36
  simp only [sm_I_int, sm_I_mn, sm_I_mx, sm_I_add_u64, sm_I_sub_u64, sm_I_add_i64, sm_I_sub_i64, sm_I_mul_i64, sm_I_fn6, sm_I_fn7, sm_I_fn8, sm_B_bool, sm_B_eql, sm_B_lss, sm_B_not, sm_B_and, sm_B_imp, sm_B_iff]
  rintro ⟨p0, p1, p2, p3, p4, p5, p6, p7, p8, p9, p10⟩
  have z0 := elem_range (i := (.var 13)) (w := 3) (j := 2) (k := 7) p10 rfl rfl (by decide) (by omega)
  clear p10
  simp only [kindLo, kindHi] at z0
  try generalize E.I ρ (.var 13) = x0 at *
  try generalize E.I ρ (.var 12) = x1 at *
  try generalize E.I ρ (.var 6) = x2 at *
  try generalize E.I ρ (.var 5) = x3 at *
  try generalize E.I ρ (.var 0) = x4 at *
  try generalize E.I ρ (.fn 1 (.pr (.var 4) (.fn 6 (.pr (.fn 8 (.pr (.var 13) (.int 3))) (.int 2))))) = x5 at *
  have rx1 : 0 ≤ x1 ∧ x1 < 18446744073709551616 := by omega
  have rx2 : 0 ≤ x2 ∧ x2 < 18446744073709551616 := by omega
  have rx3 : 0 ≤ x3 ∧ x3 < 18446744073709551616 := by omega
  have rx4 : 0 ≤ x4 ∧ x4 < 18446744073709551616 := by omega
  have rx5 : 0 ≤ x5 ∧ x5 < 18446744073709551616 := by omega
  obtain ⟨y0, e0, q0, h0⟩ := cs_max rx3 rx5
  try simp only [e0] at *
  obtain ⟨y1, e1, q1, h1⟩ := cs_sub q0 rx1
  try simp only [e1] at *
  obtain ⟨y2, e2, q2, h2⟩ := cs_min q1 rx4
  try simp only [e2] at *
  obtain ⟨y3, e3, q3, h3⟩ := cs_sub q1 q2
  try simp only [e3] at *
  obtain ⟨y4, e4, q4, h4⟩ := cs_min q3 rx2
  try simp only [e4] at *
  omega
noncomputable def f37 : E := (.imp (.and (.not (.cmp .lss (.int 80) (.var 13))) (.and (.not (.cmp .lss (.var 13) (.int 0))) (.and (.not (.cmp .lss (.int 18446744073709551615) (.var 12))) (.and (.not (.cmp .lss (.var 12) (.int 0))) (.and (.not (.cmp .lss (.int 18446744073709551615) (.var 6))) (.and (.not (.cmp .lss (.var 6) (.int 0))) (.and (.not (.cmp .lss (.int 18446744073709551615) (.var 5))) (.and (.not (.cmp .lss (.var 5) (.int 0))) (.and (.not (.cmp .lss (.int 18446744073709551615) (.var 0))) (.and (.not (.cmp .lss (.var 0) (.int 0))) (.fn 27 (.pr (.fn 23 (.pr (.int 3) (.fn 23 (.pr (.int 3) (.fn 23 (.pr (.int 7) (.fn 10 (.int 0)))))))) (.var 4))))))))))))) (.not (.cmp .lss (.int 18446744073709551615) (.ar .sub .u64 (.var 6) (.mn (.ar .sub .u64 (.ar .sub .u64 (.mx (.var 5) (.fn 1 (.pr (.var 4) (.fn 6 (.pr (.fn 8 (.pr (.var 13) (.int 3))) (.int 2)))))) (.var 12)) (.mn (.ar .sub .u64 (.mx (.var 5) (.fn 1 (.pr (.var 4) (.fn 6 (.pr (.fn 8 (.pr (.var 13) (.int 3))) (.int 2)))))) (.var 12)) (.var 0))) (.var 6))))))
theorem fact37 (ρ : Env) : E.B ρ f37 = true := by
  unfold f37
  simp only [sm_I_int, sm_I_mn, sm_I_mx, sm_I_add_u64, sm_I_sub_u64, sm_I_add_i64, sm_I_sub_i64, sm_I_mul_i64, sm_I_fn6, sm_I_fn7, sm_I_fn8, sm_B_bool, sm_B_eql, sm_B_lss, sm_B_not, sm_B_and, sm_B_imp, sm_B_iff]
  rintro ⟨p0, p1, p2, p3, p4, p5, p6, p7, p8, p9, p10⟩
  have z0 := elem_range (i := (.var 13)) (w := 3) (j := 2) (k := 7) p10 rfl rfl (by decide) (by omega)
  clear p10
  simp only [kindLo, kindHi] at z0
  try generalize E.I ρ (.var 13) = x0 at *
  try generalize E.I ρ (.var 12) = x1 at *
  try generalize E.I ρ (.var 6) = x2 at *
  try generalize E.I ρ (.var 5) = x3 at *
  try generalize E.I ρ (.var 0) = x4 at *
  try generalize E.I ρ (.fn 1 (.pr (.var 4) (.fn 6 (.pr (.fn 8 (.pr (.var 13) (.int 3))) (.int 2))))) = x5 at *
  have rx1 : 0 ≤ x1 ∧ x1 < 18446744073709551616 := by omega
  have rx2 : 0 ≤ x2 ∧ x2 < 18446744073709551616 := by omega
  have rx3 : 0 ≤ x3 ∧ x3 < 18446744073709551616 := by omega
  have rx4 : 0 ≤ x4 ∧ x4 < 18446744073709551616 := by omega
  have rx5 : 0 ≤ x5 ∧ x5 < 18446744073709551616 := by omega
  obtain ⟨y0, e0, q0, h0⟩ := cs_max rx3 rx5
  try simp only [e0] at *
  obtain ⟨y1, e1, q1, h1⟩ := cs_sub q0 rx1
  try simp only [e1] at *
  obtain ⟨y2, e2, q2, h2⟩ := cs_min q1 rx4
  try simp only [e2] at *
  obtain ⟨y3, e3, q3, h3⟩ := cs_sub q1 q2
  try simp only [e3] at *
  obtain ⟨y4, e4, q4, h4⟩ := cs_min q3 rx2
  try simp only [e4] at *
  obtain ⟨y5, e5, q5, h5⟩ := cs_sub rx2 q4
  try simp only [e5] at *
  omega
noncomputable def f38 : E := (.imp (.and (.not (.cmp .lss (.int 80) (.var 13))) (.and (.not (.cmp .lss (.var 13) (.int 0))) (.and (.not (.cmp .lss (.int 18446744073709551615) (.var 12))) (.and (.not (.cmp .lss (.var 12) (.int 0))) (.and (.not (.cmp .lss (.int 18446744073709551615) (.var 5))) (.and (.not (.cmp .lss (.var 5) (.int 0))) (.and (.not (.cmp .lss (.int 18446744073709551615) (.var 0))) (.and (.not (.cmp .lss (.var 0) (.int 0))) (.fn 27 (.pr (.fn 23 (.pr (.int 3) (.fn 23 (.pr (.int 3) (.fn 23 (.pr (.int 7) (.fn 10 (.int 0)))))))) (.var 4))))))))))) (.not (.cmp .lss (.var 0) (.mn (.ar .sub .u64 (.mx (.var 5) (.fn 1 (.pr (.var 4) (.fn 6 (.pr (.fn 8 (.pr (.var 13) (.int 3))) (.int 2)))))) (.var 12)) (.var 0)))))
theorem fact38 (ρ : Env) : E.B ρ f38 = true := by
  unfold f38
  simp only [sm_I_int, sm_I_mn, sm_I_mx, sm_I_add_u64, sm_I_sub_u64, sm_I_add_i64, sm_I_sub_i64, sm_I_mul_i64, sm_I_fn6, sm_I_fn7, sm_I_fn8, sm_B_bool, sm_B_eql, sm_B_lss, sm_B_not, sm_B_and, sm_B_imp, sm_B_iff]
  rintro ⟨p0, p1, p2, p3, p4, p5, p6, p7, p8⟩
  have z0 := elem_range (i := (.var 13)) (w := 3) (j := 2) (k := 7) p8 rfl rfl (by decide) (by omega)
  clear p8
  simp only [kindLo, kindHi] at z0
  try generalize E.I ρ (.var 13) = x0 at *
  try generalize E.I ρ (.var 12) = x1 at *
  try generalize E.I ρ (.var 5) = x2 at *
  try generalize E.I ρ (.var 0) = x3 at *
  try generalize E.I ρ (.fn 1 (.pr (.var 4) (.fn 6 (.pr (.fn 8 (.pr (.var 13) (.int 3))) (.int 2))))) = x4 at *
  have rx1 : 0 ≤ x1 ∧ x1 < 18446744073709551616 := by omega
  have rx2 : 0 ≤ x2 ∧ x2 < 18446744073709551616 := by omega
  have rx3 : 0 ≤ x3 ∧ x3 < 18446744073709551616 := by omega
  have rx4 : 0 ≤ x4 ∧ x4 < 18446744073709551616 := by omega
  obtain ⟨y0, e0, q0, h0⟩ := cs_max rx2 rx4
  try simp only [e0] at *
  obtain ⟨y1, e1, q1, h1⟩ := cs_sub q0 rx1
  try simp only [e1] at *
  obtain ⟨y2, e2, q2, h2⟩ := cs_min q1 rx3
  try simp only [e2] at *
  omega
noncomputable def f39 : E := (.imp (.and (.not (.cmp .lss (.int 80) (.var 13))) (.and (.not (.cmp .lss (.var 13) (.int 0))) (.and (.not (.cmp .lss (.int 18446744073709551615) (.var 12))) (.and (.not (.cmp .lss (.var 12) (.int 0))) (.and (.not (.cmp .lss (.int 18446744073709551615) (.var 7))) (.and (.not (.cmp .lss (.var 7) (.int 0))) (.and (.not (.cmp .lss (.int 18446744073709551615) (.var 5))) (.and (.not (.cmp .lss (.var 5) (.int 0))) (.and (.not (.cmp .lss (.int 18446744073709551615) (.var 0))) (.and (.not (.cmp .lss (.var 0) (.int 0))) (.fn 27 (.pr (.fn 23 (.pr (.int 3) (.fn 23 (.pr (.int 3) (.fn 23 (.pr (.int 7) (.fn 10 (.int 0)))))))) (.var 4))))))))))))) (.not (.cmp .lss (.ar .add .u64 (.var 7) (.mn (.mn (.ar .sub .u64 (.mx (.var 5) (.fn 1 (.pr (.var 4) (.fn 6 (.pr (.fn 8 (.pr (.var 13) (.int 3))) (.int 2)))))) (.var 12)) (.var 0)) (.ar .sub .u64 (.int 18446744073709551615) (.var 7)))) (.int 0))))
theorem fact39 (ρ : Env) : E.B ρ f39 = true := by
  unfold f39
  simp only [sm_I_int, sm_I_mn, sm_I_mx, sm_I_add_u64, sm_I_sub_u64, sm_I_add_i64, sm_I_sub_i64, sm_I_mul_i64, sm_I_fn6, sm_I_fn7, sm_I_fn8, sm_B_bool, sm_B_eql, sm_B_lss, sm_B_not, sm_B_and, sm_B_imp, sm_B_iff]
  rintro ⟨p0, p1, p2, p3, p4, p5, p6, p7, p8, p9, p10⟩
  have z0 := elem_range (i := (.var 13)) (w := 3) (j := 2) (k := 7) p10 rfl rfl (by decide) (by omega)
  clear p10
  simp only [kindLo, kindHi] at z0
  try generalize E.I ρ (.var 13) = x0 at *
  try generalize E.I ρ (.var 12) = x1 at *
  try generalize E.I ρ (.var 7) = x2 at *
  try generalize E.I ρ (.var 5) = x3 at *
  try generalize E.I ρ (.var 0) = x4 at *
  try generalize E.I ρ (.fn 1 (.pr (.var 4) (.fn 6 (.pr (.fn 8 (.pr (.var 13) (.int 3))) (.int 2))))) = x5 at *
  have rx1 : 0 ≤ x1 ∧ x1 < 18446744073709551616 := by omega
  have rx2 : 0 ≤ x2 ∧ x2 < 18446744073709551616 := by omega
  have rx3 : 0 ≤ x3 ∧ x3 < 18446744073709551616 := by omega
  have rx4 : 0 ≤ x4 ∧ x4 < 18446744073709551616 := by omega
  have rx5 : 0 ≤ x5 ∧ x5 < 18446744073709551616 := by omega
  obtain ⟨y0, e0, q0, h0⟩ := cs_max rx3 rx5
  try simp only [e0] at *
  obtain ⟨y1, e1, q1, h1⟩ := cs_sub q0 rx1
  try simp only [e1] at *
  obtain ⟨y2, e2, q2, h2⟩ := cs_min q1 rx4
  try simp only [e2] at *
  obtain ⟨y3, e3, q3, h3⟩ := cs_sub (by omega : (0:Int) ≤ 18446744073709551615 ∧ (18446744073709551615:Int) < 18446744073709551616) rx2
  try simp only [e3] at *
  obtain ⟨y4, e4, q4, h4⟩ := cs_min q2 q3
  try simp only [e4] at *
  obtain ⟨y5, e5, q5, h5⟩ := cs_add rx2 q4
  try simp only [e5] at *
  omega
noncomputable def f40 : E := (.imp (.and (.not (.cmp .lss (.int 80) (.var 13))) (.and (.not (.cmp .lss (.var 13) (.int 0))) (.and (.not (.cmp .lss (.int 18446744073709551615) (.var 12))) (.and (.not (.cmp .lss (.var 12) (.int 0))) (.and (.not (.cmp .lss (.int 18446744073709551615) (.var 7))) (.and (.not (.cmp .lss (.var 7) (.int 0))) (.and (.not (.cmp .lss (.int 18446744073709551615) (.var 5))) (.and (.not (.cmp .lss (.var 5) (.int 0))) (.and (.not (.cmp .lss (.int 18446744073709551615) (.var 0))) (.and (.not (.cmp .lss (.var 0) (.int 0))) (.fn 27 (.pr (.fn 23 (.pr (.int 3) (.fn 23 (.pr (.int 3) (.fn 23 (.pr (.int 7) (.fn 10 (.int 0)))))))) (.var 4))))))))))))) (.not (.cmp .lss (.int 18446744073709551615) (.ar .add .u64 (.var 7) (.mn (.mn (.ar .sub .u64 (.mx (.var 5) (.fn 1 (.pr (.var 4) (.fn 6 (.pr (.fn 8 (.pr (.var 13) (.int 3))) (.int 2)))))) (.var 12)) (.var 0)) (.ar .sub .u64 (.int 18446744073709551615) (.var 7)))))))
theorem fact40 (ρ : Env) : E.B ρ f40 = true := by
  unfold f40
  simp only [sm_I_int, sm_I_mn, sm_I_mx, sm_I_add_u64, sm_I_sub_u64, sm_I_add_i64, sm_I_sub_i64, sm_I_mul_i64, sm_I_fn6, sm_I_fn7, sm_I_fn8, sm_B_bool, sm_B_eql, sm_B_lss, sm_B_not, sm_B_and, sm_B_imp, sm_B_iff]
  rintro ⟨p0, p1, p2, p3, p4, p5, p6, p7, p8, p9, p10⟩
  have z0 := elem_range (i := (.var 13)) (w := 3) (j := 2) (k := 7) p10 rfl rfl (by decide) (by omega)
  clear p10
  simp only [kindLo, kindHi] at z0
  try generalize E.I ρ (.var 13) = x0 at *
  try generalize E.I ρ (.var 12) = x1 at *
  try generalize E.I ρ (.var 7) = x2 at *
  try generalize E.I ρ (.var 5) = x3 at *
  try generalize E.I ρ (.var 0) = x4 at *
  try generalize E.I ρ (.fn 1 (.pr (.var 4) (.fn 6 (.pr (.fn 8 (.pr (.var 13) (.int 3))) (.int 2))))) = x5 at *
  have rx1 : 0 ≤ x1 ∧ x1 < 18446744073709551616 := by omega
  have rx2 : 0 ≤ x2 ∧ x2 < 18446744073709551616 := by omega
  have rx3 : 0 ≤ x3 ∧ x3 < 18446744073709551616 := by omega
  have rx4 : 0 ≤ x4 ∧ x4 < 18446744073709551616 := by omega
  have rx5 : 0 ≤ x5 ∧ x5 < 18446744073709551616 := by omega
  obtain ⟨y0, e0, q0, h0⟩ := cs_max rx3 rx5
  try simp only [e0] at *
  obtain ⟨y1, e1, q1, h1⟩ := cs_sub q0 rx1
  try simp only [e1] at *
  obtain ⟨y2, e2, q2, h2⟩ := cs_min q1 rx4
  try simp only [e2] at *
  obtain ⟨y3, e3, q3, h3⟩ := cs_sub (by omega : (0:Int) ≤ 18446744073709551615 ∧ (18446744073709551615:Int) < 18446744073709551616) rx2
  try simp only [e3] at *
  obtain ⟨y4, e4, q4, h4⟩ := cs_min q2 q3
  try simp only [e4] at *
  obtain ⟨y5, e5, q5, h5⟩ := cs_add rx2 q4
  try simp only [e5] at *
  omega
noncomputable def f41 : E := (.imp (.and (.not (.cmp .lss (.int 80) (.var 13))) (.and (.not (.cmp .lss (.var 13) (.int 0))) (.and (.not (.cmp .lss (.int 18446744073709551615) (.var 12))) (.and (.not (.cmp .lss (.var 12) (.int 0))) (.and (.not (.cmp .lss (.int 18446744073709551615) (.var 8))) (.and (.not (.cmp .lss (.var 8) (.int 0))) (.and (.not (.cmp .lss (.int 18446744073709551615) (.var 6))) (.and (.not (.cmp .lss (.var 6) (.int 0))) (.and (.not (.cmp .lss (.int 18446744073709551615) (.var 5))) (.and (.not (.cmp .lss (.var 5) (.int 0))) (.and (.not (.cmp .lss (.int 18446744073709551615) (.var 0))) (.and (.not (.cmp .lss (.var 0) (.int 0))) (.fn 27 (.pr (.fn 23 (.pr (.int 3) (.fn 23 (.pr (.int 3) (.fn 23 (.pr (.int 7) (.fn 10 (.int 0)))))))) (.var 4))))))))))))))) (.not (.cmp .lss (.ar .add .u64 (.var 8) (.mn (.mn (.ar .sub .u64 (.ar .sub .u64 (.mx (.var 5) (.fn 1 (.pr (.var 4) (.fn 6 (.pr (.fn 8 (.pr (.var 13) (.int 3))) (.int 2)))))) (.var 12)) (.mn (.ar .sub .u64 (.mx (.var 5) (.fn 1 (.pr (.var 4) (.fn 6 (.pr (.fn 8 (.pr (.var 13) (.int 3))) (.int 2)))))) (.var 12)) (.var 0))) (.var 6)) (.ar .sub .u64 (.int 18446744073709551615) (.var 8)))) (.int 0))))
theorem fact41 (ρ : Env) : E.B ρ f41 = true := by
  unfold f41
  simp only [sm_I_int, sm_I_mn, sm_I_mx, sm_I_add_u64, sm_I_sub_u64, sm_I_add_i64, sm_I_sub_i64, sm_I_mul_i64, sm_I_fn6, sm_I_fn7, sm_I_fn8, sm_B_bool, sm_B_eql, sm_B_lss, sm_B_not, sm_B_and, sm_B_imp, sm_B_iff]
  rintro ⟨p0, p1, p2, p3, p4, p5, p6, p7, p8, p9, p10, p11, p12⟩
  have z0 := elem_range (i := (.var 13)) (w := 3) (j := 2) (k := 7) p12 rfl rfl (by decide) (by omega)
  clear p12
  simp only [kindLo, kindHi] at z0
  try generalize E.I ρ (.var 13) = x0 at *
  try generalize E.I ρ (.var 12) = x1 at *
  try generalize E.I ρ (.var 8) = x2 at *
  try generalize E.I ρ (.var 6) = x3 at *
  try generalize E.I ρ (.var 5) = x4 at *
  try generalize E.I ρ (.var 0) = x5 at *
  try generalize E.I ρ (.fn 1 (.pr (.var 4) (.fn 6 (.pr (.fn 8 (.pr (.var 13) (.int 3))) (.int 2))))) = x6 at *
  have rx1 : 0 ≤ x1 ∧ x1 < 18446744073709551616 := by omega
  have rx2 : 0 ≤ x2 ∧ x2 < 18446744073709551616 := by omega
  have rx3 : 0 ≤ x3 ∧ x3 < 18446744073709551616 := by omega
  have rx4 : 0 ≤ x4 ∧ x4 < 18446744073709551616 := by omega
  have rx5 : 0 ≤ x5 ∧ x5 < 18446744073709551616 := by omega
  have rx6 : 0 ≤ x6 ∧ x6 < 18446744073709551616 := by omega
  obtain ⟨y0, e0, q0, h0⟩ := cs_max rx4 rx6
  try simp only [e0] at *
  obtain ⟨y1, e1, q1, h1⟩ := cs_sub q0 rx1
  try simp only [e1] at *
  obtain ⟨y2, e2, q2, h2⟩ := cs_min q1 rx5
  try simp only [e2] at *
  obtain ⟨y3, e3, q3, h3⟩ := cs_sub q1 q2
  try simp only [e3] at *
  obtain ⟨y4, e4, q4, h4⟩ := cs_min q3 rx3
  try simp only [e4] at *
  obtain ⟨y5, e5, q5, h5⟩ := cs_sub (by omega : (0:Int) ≤ 18446744073709551615 ∧ (18446744073709551615:Int) < 18446744073709551616) rx2
  try simp only [e5] at *
  obtain ⟨y6, e6, q6, h6⟩ := cs_min q4 q5
  try simp only [e6] at *
  obtain ⟨y7, e7, q7, h7⟩ := cs_add rx2 q6
  try simp only [e7] at *
  omega
noncomputable def f42 : E := (.imp (.and (.not (.cmp .lss (.int 80) (.var 13))) (.and (.not (.cmp .lss (.var 13) (.int 0))) (.and (.not (.cmp .lss (.int 18446744073709551615) (.var 12))) (.and (.not (.cmp .lss (.var 12) (.int 0))) (.and (.not (.cmp .lss (.int 18446744073709551615) (.var 8))) (.and (.not (.cmp .lss (.var 8) (.int 0))) (.and (.not (.cmp .lss (.int 18446744073709551615) (.var 6))) (.and (.not (.cmp .lss (.var 6) (.int 0))) (.and (.not (.cmp .lss (.int 18446744073709551615) (.var 5))) (.and (.not (.cmp .lss (.var 5) (.int 0))) (.and (.not (.cmp .lss (.int 18446744073709551615) (.var 0))) (.and (.not (.cmp .lss (.var 0) (.int 0))) (.fn 27 (.pr (.fn 23 (.pr (.int 3) (.fn 23 (.pr (.int 3) (.fn 23 (.pr (.int 7) (.fn 10 (.int 0)))))))) (.var 4))))))))))))))) (.not (.cmp .lss (.int 18446744073709551615) (.ar .add .u64 (.var 8) (.mn (.mn (.ar .sub .u64 (.ar .sub .u64 (.mx (.var 5) (.fn 1 (.pr (.var 4) (.fn 6 (.pr (.fn 8 (.pr (.var 13) (.int 3))) (.int 2)))))) (.var 12)) (.mn (.ar .sub .u64 (.mx (.var 5) (.fn 1 (.pr (.var 4) (.fn 6 (.pr (.fn 8 (.pr (.var 13) (.int 3))) (.int 2)))))) (.var 12)) (.var 0))) (.var 6)) (.ar .sub .u64 (.int 18446744073709551615) (.var 8)))))))
theorem fact42 (ρ : Env) : E.B ρ f42 = true := by
  unfold f42
  simp only [sm_I_int, sm_I_mn, sm_I_mx, sm_I_add_u64, sm_I_sub_u64, sm_I_add_i64, sm_I_sub_i64, sm_I_mul_i64, sm_I_fn6, sm_I_fn7, sm_I_fn8, sm_B_bool, sm_B_eql, sm_B_lss, sm_B_not, sm_B_and, sm_B_imp, sm_B_iff]
  rintro ⟨p0, p1, p2, p3, p4, p5, p6, p7, p8, p9, p10, p11, p12⟩
  have z0 := elem_range (i := (.var 13)) (w := 3) (j := 2) (k := 7) p12 rfl rfl (by decide) (by omega)
  clear p12
  simp only [kindLo, kindHi] at z0
  try generalize E.I ρ (.var 13) = x0 at *
  try generalize E.I ρ (.var 12) = x1 at *
  try generalize E.I ρ (.var 8) = x2 at *
  try generalize E.I ρ (.var 6) = x3 at *
  try generalize E.I ρ (.var 5) = x4 at *
  try generalize E.I ρ (.var 0) = x5 at *
  try generalize E.I ρ (.fn 1 (.pr (.var 4) (.fn 6 (.pr (.fn 8 (.pr (.var 13) (.int 3))) (.int 2))))) = x6 at *
  have rx1 : 0 ≤ x1 ∧ x1 < 18446744073709551616 := by omega
  have rx2 : 0 ≤ x2 ∧ x2 < 18446744073709551616 := by omega
  have rx3 : 0 ≤ x3 ∧ x3 < 18446744073709551616 := by omega
  have rx4 : 0 ≤ x4 ∧ x4 < 18446744073709551616 := by omega
  have rx5 : 0 ≤ x5 ∧ x5 < 18446744073709551616 := by omega
  have rx6 : 0 ≤ x6 ∧ x6 < 18446744073709551616 := by omega
  obtain ⟨y0, e0, q0, h0⟩ := cs_max rx4 rx6
  try simp only [e0] at *
  obtain ⟨y1, e1, q1, h1⟩ := cs_sub q0 rx1
  try simp only [e1] at *
  obtain ⟨y2, e2, q2, h2⟩ := cs_min q1 rx5
  try simp only [e2] at *
  obtain ⟨y3, e3, q3, h3⟩ := cs_sub q1 q2
  try simp only [e3] at *
  obtain ⟨y4, e4, q4, h4⟩ := cs_min q3 rx3
  try simp only [e4] at *
  obtain ⟨y5, e5, q5, h5⟩ := cs_sub (by omega : (0:Int) ≤ 18446744073709551615 ∧ (18446744073709551615:Int) < 18446744073709551616) rx2
  try simp only [e5] at *
  obtain ⟨y6, e6, q6, h6⟩ := cs_min q4 q5
  try simp only [e6] at *
  obtain ⟨y7, e7, q7, h7⟩ := cs_add rx2 q6
  try simp only [e7] at *
  omega
noncomputable def f43 : E := (.imp (.and (.not (.cmp .lss (.var 5) (.var 12))) (.and (.not (.cmp .lss (.int 80) (.var 13))) (.and (.not (.cmp .lss (.var 13) (.int 0))) (.and (.not (.cmp .lss (.int 18446744073709551615) (.var 12))) (.and (.not (.cmp .lss (.var 12) (.int 0))) (.and (.not (.cmp .lss (.int 18446744073709551615) (.var 5))) (.and (.not (.cmp .lss (.var 5) (.int 0))) (.fn 27 (.pr (.fn 23 (.pr (.int 3) (.fn 23 (.pr (.int 3) (.fn 23 (.pr (.int 7) (.fn 10 (.int 0)))))))) (.var 4)))))))))) (.not (.cmp .lss (.mx (.var 5) (.fn 1 (.pr (.var 4) (.fn 6 (.pr (.fn 8 (.pr (.var 13) (.int 3))) (.int 2)))))) (.var 12))))
theorem fact43 (ρ : Env) : E.B ρ f43 = true := by
  unfold f43
  simp only [sm_I_int, sm_I_mn, sm_I_mx, sm_I_add_u64, sm_I_sub_u64, sm_I_add_i64, sm_I_sub_i64, sm_I_mul_i64, sm_I_fn6, sm_I_fn7, sm_I_fn8, sm_B_bool, sm_B_eql, sm_B_lss, sm_B_not, sm_B_and, sm_B_imp, sm_B_iff]
  rintro ⟨p0, p1, p2, p3, p4, p5, p6, p7⟩
  have z0 := elem_range (i := (.var 13)) (w := 3) (j := 2) (k := 7) p7 rfl rfl (by decide) (by omega)
  clear p7
  simp only [kindLo, kindHi] at z0
  try generalize E.I ρ (.var 5) = x0 at *
  try generalize E.I ρ (.var 12) = x1 at *
  try generalize E.I ρ (.var 13) = x2 at *
  try generalize E.I ρ (.fn 1 (.pr (.var 4) (.fn 6 (.pr (.fn 8 (.pr (.var 13) (.int 3))) (.int 2))))) = x3 at *
  have rx0 : 0 ≤ x0 ∧ x0 < 18446744073709551616 := by omega
  have rx1 : 0 ≤ x1 ∧ x1 < 18446744073709551616 := by omega
  have rx3 : 0 ≤ x3 ∧ x3 < 18446744073709551616 := by omega
  obtain ⟨y0, e0, q0, h0⟩ := cs_max rx0 rx3
  try simp only [e0] at *
  omega
noncomputable def f44 : E := (.imp (.and (.not (.cmp .lss (.var 3) (.var 6))) (.and (.not (.cmp .lss (.int 80) (.var 13))) (.and (.not (.cmp .lss (.var 13) (.int 0))) (.and (.not (.cmp .lss (.int 18446744073709551615) (.var 12))) (.and (.not (.cmp .lss (.var 12) (.int 0))) (.and (.not (.cmp .lss (.int 18446744073709551615) (.var 6))) (.and (.not (.cmp .lss (.var 6) (.int 0))) (.and (.not (.cmp .lss (.int 18446744073709551615) (.var 5))) (.and (.not (.cmp .lss (.var 5) (.int 0))) (.and (.not (.cmp .lss (.int 18446744073709551615) (.var 3))) (.and (.not (.cmp .lss (.var 3) (.int 0))) (.and (.not (.cmp .lss (.int 18446744073709551615) (.var 0))) (.and (.not (.cmp .lss (.var 0) (.int 0))) (.fn 27 (.pr (.fn 23 (.pr (.int 3) (.fn 23 (.pr (.int 3) (.fn 23 (.pr (.int 7) (.fn 10 (.int 0)))))))) (.var 4)))))))))))))))) (.not (.cmp .lss (.var 3) (.ar .sub .u64 (.var 6) (.mn (.ar .sub .u64 (.ar .sub .u64 (.mx (.var 5) (.fn 1 (.pr (.var 4) (.fn 6 (.pr (.fn 8 (.pr (.var 13) (.int 3))) (.int 2)))))) (.var 12)) (.mn (.ar .sub .u64 (.mx (.var 5) (.fn 1 (.pr (.var 4) (.fn 6 (.pr (.fn 8 (.pr (.var 13) (.int 3))) (.int 2)))))) (.var 12)) (.var 0))) (.var 6))))))
theorem fact44 (ρ : Env) : E.B ρ f44 = true := by
  unfold f44
  simp only [sm_I_int, sm_I_mn, sm_I_mx, sm_I_add_u64, sm_I_sub_u64, sm_I_add_i64, sm_I_sub_i64, sm_I_mul_i64, sm_I_fn6, sm_I_fn7, sm_I_fn8, sm_B_bool, sm_B_eql, sm_B_lss, sm_B_not, sm_B_and, sm_B_imp, sm_B_iff]
  rintro ⟨p0, p1, p2, p3, p4, p5, p6, p7, p8, p9, p10, p11, p12, p13⟩
  have z0 := elem_range (i := (.var 13)) (w := 3) (j := 2) (k := 7) p13 rfl rfl (by decide) (by omega)
  clear p13
  simp only [kindLo, kindHi] at z0
  try generalize E.I ρ (.var 3) = x0 at *
  try generalize E.I ρ (.var 6) = x1 at *
  try generalize E.I ρ (.var 13) = x2 at *
  try generalize E.I ρ (.var 12) = x3 at *
  try generalize E.I ρ (.var 5) = x4 at *
  try generalize E.I ρ (.var 0) = x5 at *
  try generalize E.I ρ (.fn 1 (.pr (.var 4) (.fn 6 (.pr (.fn 8 (.pr (.var 13) (.int 3))) (.int 2))))) = x6 at *
  have rx0 : 0 ≤ x0 ∧ x0 < 18446744073709551616 := by omega
  have rx1 : 0 ≤ x1 ∧ x1 < 18446744073709551616 := by omega
  have rx3 : 0 ≤ x3 ∧ x3 < 18446744073709551616 := by omega
  have rx4 : 0 ≤ x4 ∧ x4 < 18446744073709551616 := by omega
  have rx5 : 0 ≤ x5 ∧ x5 < 18446744073709551616 := by omega
  have rx6 : 0 ≤ x6 ∧ x6 < 18446744073709551616 := by omega
  obtain ⟨y0, e0, q0, h0⟩ := cs_max rx4 rx6
  try simp only [e0] at *
  obtain ⟨y1, e1, q1, h1⟩ := cs_sub q0 rx3
  try simp only [e1] at *
  obtain ⟨y2, e2, q2, h2⟩ := cs_min q1 rx5
  try simp only [e2] at *
  obtain ⟨y3, e3, q3, h3⟩ := cs_sub q1 q2
  try simp only [e3] at *
  obtain ⟨y4, e4, q4, h4⟩ := cs_min q3 rx1
  try simp only [e4] at *
  obtain ⟨y5, e5, q5, h5⟩ := cs_sub rx1 q4
  try simp only [e5] at *
  omega
noncomputable def f45 : E := (.imp (.and (.not (.cmp .lss (.var 3) (.var 9))) (.and (.not (.cmp .lss (.int 18446744073709551615) (.var 12))) (.and (.not (.cmp .lss (.var 12) (.int 0))) (.and (.not (.cmp .lss (.int 18446744073709551615) (.var 9))) (.and (.not (.cmp .lss (.var 9) (.int 0))) (.and (.not (.cmp .lss (.int 18446744073709551615) (.var 5))) (.and (.not (.cmp .lss (.var 5) (.int 0))) (.and (.not (.cmp .lss (.int 18446744073709551615) (.var 3))) (.and (.not (.cmp .lss (.var 3) (.int 0))) (.and (.not (.cmp .lss (.int 18446744073709551615) (.var 0))) (.not (.cmp .lss (.var 0) (.int 0))))))))))))) (.not (.cmp .lss (.var 3) (.ar .sub .u64 (.var 9) (.mn (.ar .sub .u64 (.ar .sub .u64 (.mx (.var 5) (.var 5)) (.var 12)) (.mn (.ar .sub .u64 (.mx (.var 5) (.var 5)) (.var 12)) (.var 0))) (.var 9))))))
theorem fact45 (ρ : Env) : E.B ρ f45 = true := by
  unfold f45
  simp only [sm_I_int, sm_I_mn, sm_I_mx, sm_I_add_u64, sm_I_sub_u64, sm_I_add_i64, sm_I_sub_i64, sm_I_mul_i64, sm_I_fn6, sm_I_fn7, sm_I_fn8, sm_B_bool, sm_B_eql, sm_B_lss, sm_B_not, sm_B_and, sm_B_imp, sm_B_iff]
  rintro ⟨p0, p1, p2, p3, p4, p5, p6, p7, p8, p9, p10⟩
  try generalize E.I ρ (.var 3) = x0 at *
  try generalize E.I ρ (.var 9) = x1 at *
  try generalize E.I ρ (.var 12) = x2 at *
  try generalize E.I ρ (.var 5) = x3 at *
  try generalize E.I ρ (.var 0) = x4 at *
  have rx0 : 0 ≤ x0 ∧ x0 < 18446744073709551616 := by omega
  have rx1 : 0 ≤ x1 ∧ x1 < 18446744073709551616 := by omega
  have rx2 : 0 ≤ x2 ∧ x2 < 18446744073709551616 := by omega
  have rx3 : 0 ≤ x3 ∧ x3 < 18446744073709551616 := by omega
  have rx4 : 0 ≤ x4 ∧ x4 < 18446744073709551616 := by omega
  obtain ⟨y0, e0, q0, h0⟩ := cs_max rx3 rx3
  try simp only [e0] at *
  obtain ⟨y1, e1, q1, h1⟩ := cs_sub q0 rx2
  try simp only [e1] at *
  obtain ⟨y2, e2, q2, h2⟩ := cs_min q1 rx4
  try simp only [e2] at *
  obtain ⟨y3, e3, q3, h3⟩ := cs_sub q1 q2
  try simp only [e3] at *
  obtain ⟨y4, e4, q4, h4⟩ := cs_min q3 rx1
  try simp only [e4] at *
  obtain ⟨y5, e5, q5, h5⟩ := cs_sub rx1 q4
  try simp only [e5] at *
  omega
noncomputable def f46 : E := (.imp (.and (.not (.cmp .lss (.var 5) (.var 12))) (.and (.cmp .lss (.int 0) (.mn (.ar .sub .u64 (.ar .sub .u64 (.mx (.var 5) (.fn 1 (.pr (.var 4) (.fn 6 (.pr (.fn 8 (.pr (.var 13) (.int 3))) (.int 2)))))) (.var 12)) (.mn (.ar .sub .u64 (.mx (.var 5) (.fn 1 (.pr (.var 4) (.fn 6 (.pr (.fn 8 (.pr (.var 13) (.int 3))) (.int 2)))))) (.var 12)) (.var 0))) (.var 9))) (.and (.not (.cmp .eql (.ar .add .u64 (.ar .add .u64 (.var 12) (.mn (.var 0) (.ar .sub .u64 (.int 18446744073709551615) (.var 12)))) (.mn (.var 9) (.ar .sub .u64 (.int 18446744073709551615) (.ar .add .u64 (.var 12) (.mn (.var 0) (.ar .sub .u64 (.int 18446744073709551615) (.var 12))))))) (.int 18446744073709551615))) (.and (.not (.cmp .lss (.int 80) (.var 13))) (.and (.not (.cmp .lss (.var 13) (.int 0))) (.and (.not (.cmp .lss (.int 18446744073709551615) (.var 12))) (.and (.not (.cmp .lss (.var 12) (.int 0))) (.and (.not (.cmp .lss (.int 18446744073709551615) (.var 9))) (.and (.not (.cmp .lss (.var 9) (.int 0))) (.and (.not (.cmp .lss (.int 18446744073709551615) (.var 5))) (.and (.not (.cmp .lss (.var 5) (.int 0))) (.and (.not (.cmp .lss (.int 18446744073709551615) (.var 0))) (.and (.not (.cmp .lss (.var 0) (.int 0))) (.fn 27 (.pr (.fn 23 (.pr (.int 3) (.fn 23 (.pr (.int 3) (.fn 23 (.pr (.int 7) (.fn 10 (.int 0)))))))) (.var 4)))))))))))))))) (.iff (.not (.cmp .lss (.mx (.var 5) (.fn 1 (.pr (.var 4) (.fn 6 (.pr (.fn 8 (.pr (.var 13) (.int 3))) (.int 2)))))) (.ar .add .u64 (.ar .add .u64 (.var 12) (.mn (.var 0) (.ar .sub .u64 (.int 18446744073709551615) (.var 12)))) (.mn (.var 9) (.ar .sub .u64 (.int 18446744073709551615) (.ar .add .u64 (.var 12) (.mn (.var 0) (.ar .sub .u64 (.int 18446744073709551615) (.var 12))))))))) (.cmp .eql (.mn (.ar .sub .u64 (.ar .sub .u64 (.mx (.var 5) (.fn 1 (.pr (.var 4) (.fn 6 (.pr (.fn 8 (.pr (.var 13) (.int 3))) (.int 2)))))) (.var 12)) (.mn (.ar .sub .u64 (.mx (.var 5) (.fn 1 (.pr (.var 4) (.fn 6 (.pr (.fn 8 (.pr (.var 13) (.int 3))) (.int 2)))))) (.var 12)) (.var 0))) (.var 9)) (.var 9))))
theorem fact46 (ρ : Env) : E.B ρ f46 = true := by
  unfold f46
  simp only [sm_I_int, sm_I_mn, sm_I_mx, sm_I_add_u64, sm_I_sub_u64, sm_I_add_i64, sm_I_sub_i64, sm_I_mul_i64, sm_I_fn6, sm_I_fn7, sm_I_fn8, sm_B_bool, sm_B_eql, sm_B_lss, sm_B_not, sm_B_and, sm_B_imp, sm_B_iff]
  rintro ⟨p0, p1, p2, p3, p4, p5, p6, p7, p8, p9, p10, p11, p12, p13⟩
  have z0 := elem_range (i := (.var 13)) (w := 3) (j := 2) (k := 7) p13 rfl rfl (by decide) (by omega)
  clear p13
  simp only [kindLo, kindHi] at z0
  try generalize E.I ρ (.var 5) = x0 at *
  try generalize E.I ρ (.var 12) = x1 at *
  try generalize E.I ρ (.fn 1 (.pr (.var 4) (.fn 6 (.pr (.fn 8 (.pr (.var 13) (.int 3))) (.int 2))))) = x2 at *
  try generalize E.I ρ (.var 0) = x3 at *
  try generalize E.I ρ (.var 9) = x4 at *
  try generalize E.I ρ (.var 13) = x5 at *
  have rx0 : 0 ≤ x0 ∧ x0 < 18446744073709551616 := by omega
  have rx1 : 0 ≤ x1 ∧ x1 < 18446744073709551616 := by omega
  have rx2 : 0 ≤ x2 ∧ x2 < 18446744073709551616 := by omega
  have rx3 : 0 ≤ x3 ∧ x3 < 18446744073709551616 := by omega
  have rx4 : 0 ≤ x4 ∧ x4 < 18446744073709551616 := by omega
  obtain ⟨y0, e0, q0, h0⟩ := cs_max rx0 rx2
  try simp only [e0] at *
  obtain ⟨y1, e1, q1, h1⟩ := cs_sub q0 rx1
  try simp only [e1] at *
  obtain ⟨y2, e2, q2, h2⟩ := cs_min q1 rx3
  try simp only [e2] at *
  obtain ⟨y3, e3, q3, h3⟩ := cs_sub q1 q2
  try simp only [e3] at *
  obtain ⟨y4, e4, q4, h4⟩ := cs_min q3 rx4
  try simp only [e4] at *
  obtain ⟨y5, e5, q5, h5⟩ := cs_sub (by omega : (0:Int) ≤ 18446744073709551615 ∧ (18446744073709551615:Int) < 18446744073709551616) rx1
  try simp only [e5] at *
  obtain ⟨y6, e6, q6, h6⟩ := cs_min rx3 q5
  try simp only [e6] at *
  obtain ⟨y7, e7, q7, h7⟩ := cs_add rx1 q6
  try simp only [e7] at *
  obtain ⟨y8, e8, q8, h8⟩ := cs_sub (by omega : (0:Int) ≤ 18446744073709551615 ∧ (18446744073709551615:Int) < 18446744073709551616) q7
  try simp only [e8] at *
  obtain ⟨y9, e9, q9, h9⟩ := cs_min rx4 q8
  try simp only [e9] at *
  obtain ⟨y10, e10, q10, h10⟩ := cs_add q7 q9
  try simp only [e10] at *
  omega
noncomputable def f47 : E := (.imp (.and (.not (.cmp .lss (.int 80) (.var 13))) (.and (.not (.cmp .lss (.var 13) (.int 0))) (.and (.not (.cmp .lss (.int 18446744073709551615) (.var 12))) (.and (.not (.cmp .lss (.var 12) (.int 0))) (.and (.not (.cmp .lss (.int 18446744073709551615) (.var 9))) (.and (.not (.cmp .lss (.var 9) (.int 0))) (.and (.not (.cmp .lss (.int 18446744073709551615) (.var 5))) (.and (.not (.cmp .lss (.var 5) (.int 0))) (.and (.not (.cmp .lss (.int 18446744073709551615) (.var 0))) (.and (.not (.cmp .lss (.var 0) (.int 0))) (.fn 27 (.pr (.fn 23 (.pr (.int 3) (.fn 23 (.pr (.int 3) (.fn 23 (.pr (.int 7) (.fn 10 (.int 0)))))))) (.var 4))))))))))))) (.not (.cmp .lss (.ar .sub .u64 (.var 9) (.mn (.ar .sub .u64 (.ar .sub .u64 (.mx (.var 5) (.fn 1 (.pr (.var 4) (.fn 6 (.pr (.fn 8 (.pr (.var 13) (.int 3))) (.int 2)))))) (.var 12)) (.mn (.ar .sub .u64 (.mx (.var 5) (.fn 1 (.pr (.var 4) (.fn 6 (.pr (.fn 8 (.pr (.var 13) (.int 3))) (.int 2)))))) (.var 12)) (.var 0))) (.var 9))) (.int 0))))
theorem fact47 (ρ : Env) : E.B ρ f47 = true := by
  unfold f47
  simp only [sm_I_int, sm_I_mn, sm_I_mx, sm_I_add_u64, sm_I_sub_u64, sm_I_add_i64, sm_I_sub_i64, sm_I_mul_i64, sm_I_fn6, sm_I_fn7, sm_I_fn8, sm_B_bool, sm_B_eql, sm_B_lss, sm_B_not, sm_B_and, sm_B_imp, sm_B_iff]
  rintro ⟨p0, p1, p2, p3, p4, p5, p6, p7, p8, p9, p10⟩
  have z0 := elem_range (i := (.var 13)) (w := 3) (j := 2) (k := 7) p10 rfl rfl (by decide) (by omega)
  clear p10
  simp only [kindLo, kindHi] at z0
  try generalize E.I ρ (.var 13) = x0 at *
  try generalize E.I ρ (.var 12) = x1 at *
  try generalize E.I ρ (.var 9) = x2 at *
  try generalize E.I ρ (.var 5) = x3 at *
  try generalize E.I ρ (.var 0) = x4 at *
  try generalize E.I ρ (.fn 1 (.pr (.var 4) (.fn 6 (.pr (.fn 8 (.pr (.var 13) (.int 3))) (.int 2))))) = x5 at *
  have rx1 : 0 ≤ x1 ∧ x1 < 18446744073709551616 := by omega
  have rx2 : 0 ≤ x2 ∧ x2 < 18446744073709551616 := by omega
  have rx3 : 0 ≤ x3 ∧ x3 < 18446744073709551616 := by omega
  have rx4 : 0 ≤ x4 ∧ x4 < 18446744073709551616 := by omega
  have rx5 : 0 ≤ x5 ∧ x5 < 18446744073709551616 := by omega
  obtain ⟨y0, e0, q0, h0⟩ := cs_max rx3 rx5
  try simp only [e0] at *
  obtain ⟨y1, e1, q1, h1⟩ := cs_sub q0 rx1
  try simp only [e1] at *
  obtain ⟨y2, e2, q2, h2⟩ := cs_min q1 rx4
  try simp only [e2] at *
  obtain ⟨y3, e3, q3, h3⟩ := cs_sub q1 q2
  try simp only [e3] at *
  obtain ⟨y4, e4, q4, h4⟩ := cs_min q3 rx2
  try simp only [e4] at *
  obtain ⟨y5, e5, q5, h5⟩ := cs_sub rx2 q4
  try simp only [e5] at *
  omega
noncomputable def f48 : E := (.imp (.and (.not (.cmp .lss (.int 80) (.var 13))) (.and (.not (.cmp .lss (.var 13) (.int 0))) (.and (.not (.cmp .lss (.int 18446744073709551615) (.var 12))) (.and (.not (.cmp .lss (.var 12) (.int 0))) (.and (.not (.cmp .lss (.int 18446744073709551615) (.var 9))) (.and (.not (.cmp .lss (.var 9) (.int 0))) (.and (.not (.cmp .lss (.int 18446744073709551615) (.var 5))) (.and (.not (.cmp .lss (.var 5) (.int 0))) (.and (.not (.cmp .lss (.int 18446744073709551615) (.var 0))) (.and (.not (.cmp .lss (.var 0) (.int 0))) (.fn 27 (.pr (.fn 23 (.pr (.int 3) (.fn 23 (.pr (.int 3) (.fn 23 (.pr (.int 7) (.fn 10 (.int 0)))))))) (.var 4))))))))))))) (.cmp .eql (.ar .sub .u64 (.ar .sub .u64 (.var 9) (.mn (.ar .sub .u64 (.ar .sub .u64 (.mx (.var 5) (.fn 1 (.pr (.var 4) (.fn 6 (.pr (.fn 8 (.pr (.var 13) (.int 3))) (.int 2)))))) (.var 12)) (.mn (.ar .sub .u64 (.mx (.var 5) (.fn 1 (.pr (.var 4) (.fn 6 (.pr (.fn 8 (.pr (.var 13) (.int 3))) (.int 2)))))) (.var 12)) (.var 0))) (.var 9))) (.int 0)) (.ar .sub .u64 (.var 9) (.mn (.ar .sub .u64 (.ar .sub .u64 (.mx (.var 5) (.fn 1 (.pr (.var 4) (.fn 6 (.pr (.fn 8 (.pr (.var 13) (.int 3))) (.int 2)))))) (.var 12)) (.mn (.ar .sub .u64 (.mx (.var 5) (.fn 1 (.pr (.var 4) (.fn 6 (.pr (.fn 8 (.pr (.var 13) (.int 3))) (.int 2)))))) (.var 12)) (.var 0))) (.var 9)))))
theorem fact48 (ρ : Env) : E.B ρ f48 = true := by
  unfold f48
  simp only [sm_I_int, sm_I_mn, sm_I_mx, sm_I_add_u64, sm_I_sub_u64, sm_I_add_i64, sm_I_sub_i64, sm_I_mul_i64, sm_I_fn6, sm_I_fn7, sm_I_fn8, sm_B_bool, sm_B_eql, sm_B_lss, sm_B_not, sm_B_and, sm_B_imp, sm_B_iff]
  rintro ⟨p0, p1, p2, p3, p4, p5, p6, p7, p8, p9, p10⟩
  have z0 := elem_range (i := (.var 13)) (w := 3) (j := 2) (k := 7) p10 rfl rfl (by decide) (by omega)
  clear p10
  simp only [kindLo, kindHi] at z0
  try generalize E.I ρ (.var 13) = x0 at *
  try generalize E.I ρ (.var 12) = x1 at *
  try generalize E.I ρ (.var 9) = x2 at *
  try generalize E.I ρ (.var 5) = x3 at *
  try generalize E.I ρ (.var 0) = x4 at *
  try generalize E.I ρ (.fn 1 (.pr (.var 4) (.fn 6 (.pr (.fn 8 (.pr (.var 13) (.int 3))) (.int 2))))) = x5 at *
  have rx1 : 0 ≤ x1 ∧ x1 < 18446744073709551616 := by omega
  have rx2 : 0 ≤ x2 ∧ x2 < 18446744073709551616 := by omega
  have rx3 : 0 ≤ x3 ∧ x3 < 18446744073709551616 := by omega
  have rx4 : 0 ≤ x4 ∧ x4 < 18446744073709551616 := by omega
  have rx5 : 0 ≤ x5 ∧ x5 < 18446744073709551616 := by omega
  obtain ⟨y0, e0, q0, h0⟩ := cs_max rx3 rx5
  try simp only [e0] at *
  obtain ⟨y1, e1, q1, h1⟩ := cs_sub q0 rx1
  try simp only [e1] at *
  obtain ⟨y2, e2, q2, h2⟩ := cs_min q1 rx4
  try simp only [e2] at *
  obtain ⟨y3, e3, q3, h3⟩ := cs_sub q1 q2
  try simp only [e3] at *
  obtain ⟨y4, e4, q4, h4⟩ := cs_min q3 rx2
  try simp only [e4] at *
  obtain ⟨y5, e5, q5, h5⟩ := cs_sub rx2 q4
  try simp only [e5] at *
  obtain ⟨y6, e6, q6, h6⟩ := cs_sub q5 (by omega : (0:Int) ≤ 0 ∧ (0:Int) < 18446744073709551616)
  try simp only [e6] at *
  omega
noncomputable def f49 : E := (.imp (.and (.not (.cmp .lss (.var 3) (.var 9))) (.and (.not (.cmp .lss (.int 80) (.var 13))) (.and (.not (.cmp .lss (.var 13) (.int 0))) (.and (.not (.cmp .lss (.int 18446744073709551615) (.var 12))) (.and (.not (.cmp .lss (.var 12) (.int 0))) (.and (.not (.cmp .lss (.int 18446744073709551615) (.var 9))) (.and (.not (.cmp .lss (.var 9) (.int 0))) (.and (.not (.cmp .lss (.int 18446744073709551615) (.var 5))) (.and (.not (.cmp .lss (.var 5) (.int 0))) (.and (.not (.cmp .lss (.int 18446744073709551615) (.var 3))) (.and (.not (.cmp .lss (.var 3) (.int 0))) (.and (.not (.cmp .lss (.int 18446744073709551615) (.var 0))) (.and (.not (.cmp .lss (.var 0) (.int 0))) (.fn 27 (.pr (.fn 23 (.pr (.int 3) (.fn 23 (.pr (.int 3) (.fn 23 (.pr (.int 7) (.fn 10 (.int 0)))))))) (.var 4)))))))))))))))) (.not (.cmp .lss (.var 3) (.ar .sub .u64 (.ar .sub .u64 (.var 9) (.mn (.ar .sub .u64 (.ar .sub .u64 (.mx (.var 5) (.fn 1 (.pr (.var 4) (.fn 6 (.pr (.fn 8 (.pr (.var 13) (.int 3))) (.int 2)))))) (.var 12)) (.mn (.ar .sub .u64 (.mx (.var 5) (.fn 1 (.pr (.var 4) (.fn 6 (.pr (.fn 8 (.pr (.var 13) (.int 3))) (.int 2)))))) (.var 12)) (.var 0))) (.var 9))) (.int 0)))))
theorem fact49 (ρ : Env) : E.B ρ f49 = true := by
  unfold f49
  simp only [sm_I_int, sm_I_mn, sm_I_mx, sm_I_add_u64, sm_I_sub_u64, sm_I_add_i64, sm_I_sub_i64, sm_I_mul_i64, sm_I_fn6, sm_I_fn7, sm_I_fn8, sm_B_bool, sm_B_eql, sm_B_lss, sm_B_not, sm_B_and, sm_B_imp, sm_B_iff]
  rintro ⟨p0, p1, p2, p3, p4, p5, p6, p7, p8, p9, p10, p11, p12, p13⟩
  have z0 := elem_range (i := (.var 13)) (w := 3) (j := 2) (k := 7) p13 rfl rfl (by decide) (by omega)
  clear p13
  simp only [kindLo, kindHi] at z0
  try generalize E.I ρ (.var 3) = x0 at *
  try generalize E.I ρ (.var 9) = x1 at *
  try generalize E.I ρ (.var 13) = x2 at *
  try generalize E.I ρ (.var 12) = x3 at *
  try generalize E.I ρ (.var 5) = x4 at *
  try generalize E.I ρ (.var 0) = x5 at *
  try generalize E.I ρ (.fn 1 (.pr (.var 4) (.fn 6 (.pr (.fn 8 (.pr (.var 13) (.int 3))) (.int 2))))) = x6 at *
  have rx0 : 0 ≤ x0 ∧ x0 < 18446744073709551616 := by omega
  have rx1 : 0 ≤ x1 ∧ x1 < 18446744073709551616 := by omega
  have rx3 : 0 ≤ x3 ∧ x3 < 18446744073709551616 := by omega
  have rx4 : 0 ≤ x4 ∧ x4 < 18446744073709551616 := by omega
  have rx5 : 0 ≤ x5 ∧ x5 < 18446744073709551616 := by omega
  have rx6 : 0 ≤ x6 ∧ x6 < 18446744073709551616 := by omega
  obtain ⟨y0, e0, q0, h0⟩ := cs_max rx4 rx6
  try simp only [e0] at *
  obtain ⟨y1, e1, q1, h1⟩ := cs_sub q0 rx3
  try simp only [e1] at *
  obtain ⟨y2, e2, q2, h2⟩ := cs_min q1 rx5
  try simp only [e2] at *
  obtain ⟨y3, e3, q3, h3⟩ := cs_sub q1 q2
  try simp only [e3] at *
  obtain ⟨y4, e4, q4, h4⟩ := cs_min q3 rx1
  try simp only [e4] at *
  obtain ⟨y5, e5, q5, h5⟩ := cs_sub rx1 q4
  try simp only [e5] at *
  obtain ⟨y6, e6, q6, h6⟩ := cs_sub q5 (by omega : (0:Int) ≤ 0 ∧ (0:Int) < 18446744073709551616)
  try simp only [e6] at *
  omega
noncomputable def f50 : E := (.imp (.and (.cmp .lss (.int 0) (.mn (.ar .sub .u64 (.ar .sub .u64 (.mx (.var 5) (.fn 1 (.pr (.var 4) (.fn 6 (.pr (.fn 8 (.pr (.var 13) (.int 3))) (.int 2)))))) (.var 12)) (.mn (.ar .sub .u64 (.mx (.var 5) (.fn 1 (.pr (.var 4) (.fn 6 (.pr (.fn 8 (.pr (.var 13) (.int 3))) (.int 2)))))) (.var 12)) (.var 0))) (.var 9))) (.and (.not (.cmp .eql (.mn (.ar .sub .u64 (.mx (.var 5) (.fn 1 (.pr (.var 4) (.fn 6 (.pr (.fn 8 (.pr (.var 13) (.int 3))) (.int 2)))))) (.var 12)) (.var 0)) (.var 0))) (.and (.not (.cmp .lss (.int 80) (.var 13))) (.and (.not (.cmp .lss (.var 13) (.int 0))) (.and (.not (.cmp .lss (.int 18446744073709551615) (.var 12))) (.and (.not (.cmp .lss (.var 12) (.int 0))) (.and (.not (.cmp .lss (.int 18446744073709551615) (.var 9))) (.and (.not (.cmp .lss (.var 9) (.int 0))) (.and (.not (.cmp .lss (.int 18446744073709551615) (.var 5))) (.and (.not (.cmp .lss (.var 5) (.int 0))) (.and (.not (.cmp .lss (.int 18446744073709551615) (.var 0))) (.and (.not (.cmp .lss (.var 0) (.int 0))) (.fn 27 (.pr (.fn 23 (.pr (.int 3) (.fn 23 (.pr (.int 3) (.fn 23 (.pr (.int 7) (.fn 10 (.int 0)))))))) (.var 4))))))))))))))) (.cmp .lss (.mx (.var 5) (.fn 1 (.pr (.var 4) (.fn 6 (.pr (.fn 8 (.pr (.var 13) (.int 3))) (.int 2)))))) (.ar .add .u64 (.ar .add .u64 (.var 12) (.mn (.var 0) (.ar .sub .u64 (.int 18446744073709551615) (.var 12)))) (.mn (.var 9) (.ar .sub .u64 (.int 18446744073709551615) (.ar .add .u64 (.var 12) (.mn (.var 0) (.ar .sub .u64 (.int 18446744073709551615) (.var 12)))))))))
theorem fact50 (ρ : Env) : E.B ρ f50 = true := by
  unfold f50
  simp only [sm_I_int, sm_I_mn, sm_I_mx, sm_I_add_u64, sm_I_sub_u64, sm_I_add_i64, sm_I_sub_i64, sm_I_mul_i64, sm_I_fn6, sm_I_fn7, sm_I_fn8, sm_B_bool, sm_B_eql, sm_B_lss, sm_B_not, sm_B_and, sm_B_imp, sm_B_iff]
  rintro ⟨p0, p1, p2, p3, p4, p5, p6, p7, p8, p9, p10, p11, p12⟩
  have z0 := elem_range (i := (.var 13)) (w := 3) (j := 2) (k := 7) p12 rfl rfl (by decide) (by omega)
  clear p12
  simp only [kindLo, kindHi] at z0
  try generalize E.I ρ (.var 5) = x0 at *
  try generalize E.I ρ (.fn 1 (.pr (.var 4) (.fn 6 (.pr (.fn 8 (.pr (.var 13) (.int 3))) (.int 2))))) = x1 at *
  try generalize E.I ρ (.var 12) = x2 at *
  try generalize E.I ρ (.var 0) = x3 at *
  try generalize E.I ρ (.var 9) = x4 at *
  try generalize E.I ρ (.var 13) = x5 at *
  have rx0 : 0 ≤ x0 ∧ x0 < 18446744073709551616 := by omega
  have rx1 : 0 ≤ x1 ∧ x1 < 18446744073709551616 := by omega
  have rx2 : 0 ≤ x2 ∧ x2 < 18446744073709551616 := by omega
  have rx3 : 0 ≤ x3 ∧ x3 < 18446744073709551616 := by omega
  have rx4 : 0 ≤ x4 ∧ x4 < 18446744073709551616 := by omega
  obtain ⟨y0, e0, q0, h0⟩ := cs_max rx0 rx1
  try simp only [e0] at *
  obtain ⟨y1, e1, q1, h1⟩ := cs_sub q0 rx2
  try simp only [e1] at *
  obtain ⟨y2, e2, q2, h2⟩ := cs_min q1 rx3
  try simp only [e2] at *
  obtain ⟨y3, e3, q3, h3⟩ := cs_sub q1 q2
  try simp only [e3] at *
  obtain ⟨y4, e4, q4, h4⟩ := cs_min q3 rx4
  try simp only [e4] at *
  obtain ⟨y5, e5, q5, h5⟩ := cs_sub (by omega : (0:Int) ≤ 18446744073709551615 ∧ (18446744073709551615:Int) < 18446744073709551616) rx2
  try simp only [e5] at *
  obtain ⟨y6, e6, q6, h6⟩ := cs_min rx3 q5
  try simp only [e6] at *
  obtain ⟨y7, e7, q7, h7⟩ := cs_add rx2 q6
  try simp only [e7] at *
  obtain ⟨y8, e8, q8, h8⟩ := cs_sub (by omega : (0:Int) ≤ 18446744073709551615 ∧ (18446744073709551615:Int) < 18446744073709551616) q7
  try simp only [e8] at *
  obtain ⟨y9, e9, q9, h9⟩ := cs_min rx4 q8
  try simp only [e9] at *
  obtain ⟨y10, e10, q10, h10⟩ := cs_add q7 q9
  try simp only [e10] at *
  omega
noncomputable def f51 : E := (.imp (.and (.cmp .lss (.int 0) (.mn (.ar .sub .u64 (.ar .sub .u64 (.mx (.var 5) (.fn 1 (.pr (.var 4) (.fn 6 (.pr (.fn 8 (.pr (.var 13) (.int 3))) (.int 2)))))) (.var 12)) (.mn (.ar .sub .u64 (.mx (.var 5) (.fn 1 (.pr (.var 4) (.fn 6 (.pr (.fn 8 (.pr (.var 13) (.int 3))) (.int 2)))))) (.var 12)) (.var 0))) (.var 9))) (.and (.not (.cmp .lss (.int 80) (.var 13))) (.and (.not (.cmp .lss (.var 13) (.int 0))) (.and (.not (.cmp .lss (.int 18446744073709551615) (.var 12))) (.and (.not (.cmp .lss (.var 12) (.int 0))) (.and (.not (.cmp .lss (.int 18446744073709551615) (.var 9))) (.and (.not (.cmp .lss (.var 9) (.int 0))) (.and (.not (.cmp .lss (.int 18446744073709551615) (.var 5))) (.and (.not (.cmp .lss (.var 5) (.int 0))) (.and (.not (.cmp .lss (.int 18446744073709551615) (.var 0))) (.and (.not (.cmp .lss (.var 0) (.int 0))) (.fn 27 (.pr (.fn 23 (.pr (.int 3) (.fn 23 (.pr (.int 3) (.fn 23 (.pr (.int 7) (.fn 10 (.int 0)))))))) (.var 4)))))))))))))) (.not (.cmp .lss (.mn (.ar .sub .u64 (.mx (.var 5) (.fn 1 (.pr (.var 4) (.fn 6 (.pr (.fn 8 (.pr (.var 13) (.int 3))) (.int 2)))))) (.var 12)) (.var 0)) (.var 0))))
theorem fact51 (ρ : Env) : E.B ρ f51 = true := by
  unfold f51
  simp only [sm_I_int, sm_I_mn, sm_I_mx, sm_I_add_u64, sm_I_sub_u64, sm_I_add_i64, sm_I_sub_i64, sm_I_mul_i64, sm_I_fn6, sm_I_fn7, sm_I_fn8, sm_B_bool, sm_B_eql, sm_B_lss, sm_B_not, sm_B_and, sm_B_imp, sm_B_iff]
  rintro ⟨p0, p1, p2, p3, p4, p5, p6, p7, p8, p9, p10, p11⟩
  have z0 := elem_range (i := (.var 13)) (w := 3) (j := 2) (k := 7) p11 rfl rfl (by decide) (by omega)
  clear p11
  simp only [kindLo, kindHi] at z0
  try generalize E.I ρ (.var 5) = x0 at *
  try generalize E.I ρ (.fn 1 (.pr (.var 4) (.fn 6 (.pr (.fn 8 (.pr (.var 13) (.int 3))) (.int 2))))) = x1 at *
  try generalize E.I ρ (.var 12) = x2 at *
  try generalize E.I ρ (.var 0) = x3 at *
  try generalize E.I ρ (.var 9) = x4 at *
  try generalize E.I ρ (.var 13) = x5 at *
  have rx0 : 0 ≤ x0 ∧ x0 < 18446744073709551616 := by omega
  have rx1 : 0 ≤ x1 ∧ x1 < 18446744073709551616 := by omega
  have rx2 : 0 ≤ x2 ∧ x2 < 18446744073709551616 := by omega
  have rx3 : 0 ≤ x3 ∧ x3 < 18446744073709551616 := by omega
  have rx4 : 0 ≤ x4 ∧ x4 < 18446744073709551616 := by omega
  obtain ⟨y0, e0, q0, h0⟩ := cs_max rx0 rx1
  try simp only [e0] at *
  obtain ⟨y1, e1, q1, h1⟩ := cs_sub q0 rx2
  try simp only [e1] at *
  obtain ⟨y2, e2, q2, h2⟩ := cs_min q1 rx3
  try simp only [e2] at *
  obtain ⟨y3, e3, q3, h3⟩ := cs_sub q1 q2
  try simp only [e3] at *
  obtain ⟨y4, e4, q4, h4⟩ := cs_min q3 rx4
  try simp only [e4] at *
  omega
noncomputable def f52 : E := (.imp (.and (.not (.cmp .lss (.var 5) (.var 12))) (.and (.not (.cmp .eql (.ar .add .u64 (.ar .add .u64 (.var 12) (.mn (.var 0) (.ar .sub .u64 (.int 18446744073709551615) (.var 12)))) (.mn (.var 9) (.ar .sub .u64 (.int 18446744073709551615) (.ar .add .u64 (.var 12) (.mn (.var 0) (.ar .sub .u64 (.int 18446744073709551615) (.var 12))))))) (.int 18446744073709551615))) (.and (.cmp .eql (.mn (.ar .sub .u64 (.mx (.var 5) (.fn 1 (.pr (.var 4) (.fn 6 (.pr (.fn 8 (.pr (.var 13) (.int 3))) (.int 2)))))) (.var 12)) (.var 0)) (.var 0)) (.and (.not (.cmp .lss (.int 80) (.var 13))) (.and (.not (.cmp .lss (.var 13) (.int 0))) (.and (.not (.cmp .lss (.int 18446744073709551615) (.var 12))) (.and (.not (.cmp .lss (.var 12) (.int 0))) (.and (.not (.cmp .lss (.int 18446744073709551615) (.var 9))) (.and (.not (.cmp .lss (.var 9) (.int 0))) (.and (.not (.cmp .lss (.int 18446744073709551615) (.var 5))) (.and (.not (.cmp .lss (.var 5) (.int 0))) (.and (.not (.cmp .lss (.int 18446744073709551615) (.var 0))) (.and (.not (.cmp .lss (.var 0) (.int 0))) (.fn 27 (.pr (.fn 23 (.pr (.int 3) (.fn 23 (.pr (.int 3) (.fn 23 (.pr (.int 7) (.fn 10 (.int 0)))))))) (.var 4)))))))))))))))) (.iff (.not (.cmp .lss (.mx (.var 5) (.fn 1 (.pr (.var 4) (.fn 6 (.pr (.fn 8 (.pr (.var 13) (.int 3))) (.int 2)))))) (.ar .add .u64 (.ar .add .u64 (.var 12) (.mn (.var 0) (.ar .sub .u64 (.int 18446744073709551615) (.var 12)))) (.mn (.var 9) (.ar .sub .u64 (.int 18446744073709551615) (.ar .add .u64 (.var 12) (.mn (.var 0) (.ar .sub .u64 (.int 18446744073709551615) (.var 12))))))))) (.cmp .eql (.mn (.ar .sub .u64 (.ar .sub .u64 (.mx (.var 5) (.fn 1 (.pr (.var 4) (.fn 6 (.pr (.fn 8 (.pr (.var 13) (.int 3))) (.int 2)))))) (.var 12)) (.mn (.ar .sub .u64 (.mx (.var 5) (.fn 1 (.pr (.var 4) (.fn 6 (.pr (.fn 8 (.pr (.var 13) (.int 3))) (.int 2)))))) (.var 12)) (.var 0))) (.var 9)) (.var 9))))
theorem fact52 (ρ : Env) : E.B ρ f52 = true := by
  unfold f52
  simp only [sm_I_int, sm_I_mn, sm_I_mx, sm_I_add_u64, sm_I_sub_u64, sm_I_add_i64, sm_I_sub_i64, sm_I_mul_i64, sm_I_fn6, sm_I_fn7, sm_I_fn8, sm_B_bool, sm_B_eql, sm_B_lss, sm_B_not, sm_B_and, sm_B_imp, sm_B_iff]
  rintro ⟨p0, p1, p2, p3, p4, p5, p6, p7, p8, p9, p10, p11, p12, p13⟩
  have z0 := elem_range (i := (.var 13)) (w := 3) (j := 2) (k := 7) p13 rfl rfl (by decide) (by omega)
  clear p13
  simp only [kindLo, kindHi] at z0
  try generalize E.I ρ (.var 5) = x0 at *
  try generalize E.I ρ (.var 12) = x1 at *
  try generalize E.I ρ (.var 0) = x2 at *
  try generalize E.I ρ (.var 9) = x3 at *
  try generalize E.I ρ (.fn 1 (.pr (.var 4) (.fn 6 (.pr (.fn 8 (.pr (.var 13) (.int 3))) (.int 2))))) = x4 at *
  try generalize E.I ρ (.var 13) = x5 at *
  have rx0 : 0 ≤ x0 ∧ x0 < 18446744073709551616 := by omega
  have rx1 : 0 ≤ x1 ∧ x1 < 18446744073709551616 := by omega
  have rx2 : 0 ≤ x2 ∧ x2 < 18446744073709551616 := by omega
  have rx3 : 0 ≤ x3 ∧ x3 < 18446744073709551616 := by omega
  have rx4 : 0 ≤ x4 ∧ x4 < 18446744073709551616 := by omega
  obtain ⟨y0, e0, q0, h0⟩ := cs_sub (by omega : (0:Int) ≤ 18446744073709551615 ∧ (18446744073709551615:Int) < 18446744073709551616) rx1
  try simp only [e0] at *
  obtain ⟨y1, e1, q1, h1⟩ := cs_min rx2 q0
  try simp only [e1] at *
  obtain ⟨y2, e2, q2, h2⟩ := cs_add rx1 q1
  try simp only [e2] at *
  obtain ⟨y3, e3, q3, h3⟩ := cs_sub (by omega : (0:Int) ≤ 18446744073709551615 ∧ (18446744073709551615:Int) < 18446744073709551616) q2
  try simp only [e3] at *
  obtain ⟨y4, e4, q4, h4⟩ := cs_min rx3 q3
  try simp only [e4] at *
  obtain ⟨y5, e5, q5, h5⟩ := cs_add q2 q4
  try simp only [e5] at *
  obtain ⟨y6, e6, q6, h6⟩ := cs_max rx0 rx4
  try simp only [e6] at *
  obtain ⟨y7, e7, q7, h7⟩ := cs_sub q6 rx1
  try simp only [e7] at *
  obtain ⟨y8, e8, q8, h8⟩ := cs_min q7 rx2
  try simp only [e8] at *
  obtain ⟨y9, e9, q9, h9⟩ := cs_sub q7 q8
  try simp only [e9] at *
  obtain ⟨y10, e10, q10, h10⟩ := cs_min q9 rx3
  try simp only [e10] at *
  omega
noncomputable def f53 : E := (.imp (.and (.not (.cmp .eql (.ar .add .u64 (.ar .add .u64 (.var 12) (.mn (.var 0) (.ar .sub .u64 (.int 18446744073709551615) (.var 12)))) (.mn (.var 9) (.ar .sub .u64 (.int 18446744073709551615) (.ar .add .u64 (.var 12) (.mn (.var 0) (.ar .sub .u64 (.int 18446744073709551615) (.var 12))))))) (.int 18446744073709551615))) (.and (.not (.cmp .eql (.mn (.ar .sub .u64 (.mx (.var 5) (.fn 1 (.pr (.var 4) (.fn 6 (.pr (.fn 8 (.pr (.var 13) (.int 3))) (.int 2)))))) (.var 12)) (.var 0)) (.var 0))) (.and (.not (.cmp .lss (.int 80) (.var 13))) (.and (.not (.cmp .lss (.var 13) (.int 0))) (.and (.not (.cmp .lss (.int 18446744073709551615) (.var 12))) (.and (.not (.cmp .lss (.var 12) (.int 0))) (.and (.not (.cmp .lss (.int 18446744073709551615) (.var 9))) (.and (.not (.cmp .lss (.var 9) (.int 0))) (.and (.not (.cmp .lss (.int 18446744073709551615) (.var 5))) (.and (.not (.cmp .lss (.var 5) (.int 0))) (.and (.not (.cmp .lss (.int 18446744073709551615) (.var 0))) (.and (.not (.cmp .lss (.var 0) (.int 0))) (.fn 27 (.pr (.fn 23 (.pr (.int 3) (.fn 23 (.pr (.int 3) (.fn 23 (.pr (.int 7) (.fn 10 (.int 0)))))))) (.var 4))))))))))))))) (.cmp .lss (.mx (.var 5) (.fn 1 (.pr (.var 4) (.fn 6 (.pr (.fn 8 (.pr (.var 13) (.int 3))) (.int 2)))))) (.ar .add .u64 (.ar .add .u64 (.var 12) (.mn (.var 0) (.ar .sub .u64 (.int 18446744073709551615) (.var 12)))) (.mn (.var 9) (.ar .sub .u64 (.int 18446744073709551615) (.ar .add .u64 (.var 12) (.mn (.var 0) (.ar .sub .u64 (.int 18446744073709551615) (.var 12)))))))))
theorem fact53 (ρ : Env) : E.B ρ f53 = true := by
  unfold f53
  simp only [sm_I_int, sm_I_mn, sm_I_mx, sm_I_add_u64, sm_I_sub_u64, sm_I_add_i64, sm_I_sub_i64, sm_I_mul_i64, sm_I_fn6, sm_I_fn7, sm_I_fn8, sm_B_bool, sm_B_eql, sm_B_lss, sm_B_not, sm_B_and, sm_B_imp, sm_B_iff]
  rintro ⟨p0, p1, p2, p3, p4, p5, p6, p7, p8, p9, p10, p11, p12⟩
  have z0 := elem_range (i := (.var 13)) (w := 3) (j := 2) (k := 7) p12 rfl rfl (by decide) (by omega)
  clear p12
  simp only [kindLo, kindHi] at z0
  try generalize E.I ρ (.var 12) = x0 at *
  try generalize E.I ρ (.var 0) = x1 at *
  try generalize E.I ρ (.var 9) = x2 at *
  try generalize E.I ρ (.var 5) = x3 at *
  try generalize E.I ρ (.fn 1 (.pr (.var 4) (.fn 6 (.pr (.fn 8 (.pr (.var 13) (.int 3))) (.int 2))))) = x4 at *
  try generalize E.I ρ (.var 13) = x5 at *
  have rx0 : 0 ≤ x0 ∧ x0 < 18446744073709551616 := by omega
  have rx1 : 0 ≤ x1 ∧ x1 < 18446744073709551616 := by omega
  have rx2 : 0 ≤ x2 ∧ x2 < 18446744073709551616 := by omega
  have rx3 : 0 ≤ x3 ∧ x3 < 18446744073709551616 := by omega
  have rx4 : 0 ≤ x4 ∧ x4 < 18446744073709551616 := by omega
  obtain ⟨y0, e0, q0, h0⟩ := cs_sub (by omega : (0:Int) ≤ 18446744073709551615 ∧ (18446744073709551615:Int) < 18446744073709551616) rx0
  try simp only [e0] at *
  obtain ⟨y1, e1, q1, h1⟩ := cs_min rx1 q0
  try simp only [e1] at *
  obtain ⟨y2, e2, q2, h2⟩ := cs_add rx0 q1
  try simp only [e2] at *
  obtain ⟨y3, e3, q3, h3⟩ := cs_sub (by omega : (0:Int) ≤ 18446744073709551615 ∧ (18446744073709551615:Int) < 18446744073709551616) q2
  try simp only [e3] at *
  obtain ⟨y4, e4, q4, h4⟩ := cs_min rx2 q3
  try simp only [e4] at *
  obtain ⟨y5, e5, q5, h5⟩ := cs_add q2 q4
  try simp only [e5] at *
  obtain ⟨y6, e6, q6, h6⟩ := cs_max rx3 rx4
  try simp only [e6] at *
  obtain ⟨y7, e7, q7, h7⟩ := cs_sub q6 rx0
  try simp only [e7] at *
  obtain ⟨y8, e8, q8, h8⟩ := cs_min q7 rx1
  try simp only [e8] at *
  omega
noncomputable def f54 : E := (.imp (.and (.not (.cmp .lss (.int 80) (.var 13))) (.and (.not (.cmp .lss (.var 13) (.int 0))) (.and (.not (.cmp .lss (.int 18446744073709551615) (.var 12))) (.and (.not (.cmp .lss (.var 12) (.int 0))) (.and (.not (.cmp .lss (.int 18446744073709551615) (.var 9))) (.and (.not (.cmp .lss (.var 9) (.int 0))) (.and (.not (.cmp .lss (.int 18446744073709551615) (.var 5))) (.and (.not (.cmp .lss (.var 5) (.int 0))) (.and (.not (.cmp .lss (.int 18446744073709551615) (.var 0))) (.and (.not (.cmp .lss (.var 0) (.int 0))) (.fn 27 (.pr (.fn 23 (.pr (.int 3) (.fn 23 (.pr (.int 3) (.fn 23 (.pr (.int 7) (.fn 10 (.int 0)))))))) (.var 4))))))))))))) (.not (.cmp .lss (.var 9) (.mn (.ar .sub .u64 (.ar .sub .u64 (.mx (.var 5) (.fn 1 (.pr (.var 4) (.fn 6 (.pr (.fn 8 (.pr (.var 13) (.int 3))) (.int 2)))))) (.var 12)) (.mn (.ar .sub .u64 (.mx (.var 5) (.fn 1 (.pr (.var 4) (.fn 6 (.pr (.fn 8 (.pr (.var 13) (.int 3))) (.int 2)))))) (.var 12)) (.var 0))) (.var 9)))))
theorem fact54 (ρ : Env) : E.B ρ f54 = true := by
  unfold f54
  simp only [sm_I_int, sm_I_mn, sm_I_mx, sm_I_add_u64, sm_I_sub_u64, sm_I_add_i64, sm_I_sub_i64, sm_I_mul_i64, sm_I_fn6, sm_I_fn7, sm_I_fn8, sm_B_bool, sm_B_eql, sm_B_lss, sm_B_not, sm_B_and, sm_B_imp, sm_B_iff]
  rintro ⟨p0, p1, p2, p3, p4, p5, p6, p7, p8, p9, p10⟩
  have z0 := elem_range (i := (.var 13)) (w := 3) (j := 2) (k := 7) p10 rfl rfl (by decide) (by omega)
  clear p10
  simp only [kindLo, kindHi] at z0
  try generalize E.I ρ (.var 13) = x0 at *
  try generalize E.I ρ (.var 12) = x1 at *
  try generalize E.I ρ (.var 9) = x2 at *
  try generalize E.I ρ (.var 5) = x3 at *
  try generalize E.I ρ (.var 0) = x4 at *
  try generalize E.I ρ (.fn 1 (.pr (.var 4) (.fn 6 (.pr (.fn 8 (.pr (.var 13) (.int 3))) (.int 2))))) = x5 at *
  have rx1 : 0 ≤ x1 ∧ x1 < 18446744073709551616 := by omega
  have rx2 : 0 ≤ x2 ∧ x2 < 18446744073709551616 := by omega
  have rx3 : 0 ≤ x3 ∧ x3 < 18446744073709551616 := by omega
  have rx4 : 0 ≤ x4 ∧ x4 < 18446744073709551616 := by omega
  have rx5 : 0 ≤ x5 ∧ x5 < 18446744073709551616 := by omega
  obtain ⟨y0, e0, q0, h0⟩ := cs_max rx3 rx5
  try simp only [e0] at *
  obtain ⟨y1, e1, q1, h1⟩ := cs_sub q0 rx1
  try simp only [e1] at *
  obtain ⟨y2, e2, q2, h2⟩ := cs_min q1 rx4
  try simp only [e2] at *
  obtain ⟨y3, e3, q3, h3⟩ := cs_sub q1 q2
  try simp only [e3] at *
  obtain ⟨y4, e4, q4, h4⟩ := cs_min q3 rx2
  try simp only [e4] at *
  omega
noncomputable def f55 : E := (.imp (.and (.not (.cmp .lss (.int 80) (.var 13))) (.and (.not (.cmp .lss (.var 13) (.int 0))) (.and (.not (.cmp .lss (.int 18446744073709551615) (.var 12))) (.and (.not (.cmp .lss (.var 12) (.int 0))) (.and (.not (.cmp .lss (.int 18446744073709551615) (.var 9))) (.and (.not (.cmp .lss (.var 9) (.int 0))) (.and (.not (.cmp .lss (.int 18446744073709551615) (.var 5))) (.and (.not (.cmp .lss (.var 5) (.int 0))) (.and (.not (.cmp .lss (.int 18446744073709551615) (.var 0))) (.and (.not (.cmp .lss (.var 0) (.int 0))) (.fn 27 (.pr (.fn 23 (.pr (.int 3) (.fn 23 (.pr (.int 3) (.fn 23 (.pr (.int 7) (.fn 10 (.int 0)))))))) (.var 4))))))))))))) (.not (.cmp .lss (.int 18446744073709551615) (.ar .sub .u64 (.var 9) (.mn (.ar .sub .u64 (.ar .sub .u64 (.mx (.var 5) (.fn 1 (.pr (.var 4) (.fn 6 (.pr (.fn 8 (.pr (.var 13) (.int 3))) (.int 2)))))) (.var 12)) (.mn (.ar .sub .u64 (.mx (.var 5) (.fn 1 (.pr (.var 4) (.fn 6 (.pr (.fn 8 (.pr (.var 13) (.int 3))) (.int 2)))))) (.var 12)) (.var 0))) (.var 9))))))
theorem fact55 (ρ : Env) : E.B ρ f55 = true := by
  unfold f55
  simp only [sm_I_int, sm_I_mn, sm_I_mx, sm_I_add_u64, sm_I_sub_u64, sm_I_add_i64, sm_I_sub_i64, sm_I_mul_i64, sm_I_fn6, sm_I_fn7, sm_I_fn8, sm_B_bool, sm_B_eql, sm_B_lss, sm_B_not, sm_B_and, sm_B_imp, sm_B_iff]
  rintro ⟨p0, p1, p2, p3, p4, p5, p6, p7, p8, p9, p10⟩
  have z0 := elem_range (i := (.var 13)) (w := 3) (j := 2) (k := 7) p10 rfl rfl (by decide) (by omega)
  clear p10
  simp only [kindLo, kindHi] at z0
  try generalize E.I ρ (.var 13) = x0 at *
  try generalize E.I ρ (.var 12) = x1 at *
  try generalize E.I ρ (.var 9) = x2 at *
  try generalize E.I ρ (.var 5) = x3 at *
  try generalize E.I ρ (.var 0) = x4 at *
  try generalize E.I ρ (.fn 1 (.pr (.var 4) (.fn 6 (.pr (.fn 8 (.pr (.var 13) (.int 3))) (.int 2))))) = x5 at *
  have rx1 : 0 ≤ x1 ∧ x1 < 18446744073709551616 := by omega
  have rx2 : 0 ≤ x2 ∧ x2 < 18446744073709551616 := by omega
  have rx3 : 0 ≤ x3 ∧ x3 < 18446744073709551616 := by omega
  have rx4 : 0 ≤ x4 ∧ x4 < 18446744073709551616 := by omega
  have rx5 : 0 ≤ x5 ∧ x5 < 18446744073709551616 := by omega
  obtain ⟨y0, e0, q0, h0⟩ := cs_max rx3 rx5
  try simp only [e0] at *
  obtain ⟨y1, e1, q1, h1⟩ := cs_sub q0 rx1
  try simp only [e1] at *
  obtain ⟨y2, e2, q2, h2⟩ := cs_min q1 rx4
  try simp only [e2] at *
  obtain ⟨y3, e3, q3, h3⟩ := cs_sub q1 q2
  try simp only [e3] at *
  obtain ⟨y4, e4, q4, h4⟩ := cs_min q3 rx2
  try simp only [e4] at *
  obtain ⟨y5, e5, q5, h5⟩ := cs_sub rx2 q4
  try simp only [e5] at *
  omega
noncomputable def f56 : E := (.imp (.and (.not (.cmp .lss (.int 80) (.var 13))) (.and (.not (.cmp .lss (.var 13) (.int 0))) (.and (.not (.cmp .lss (.int 18446744073709551615) (.var 12))) (.and (.not (.cmp .lss (.var 12) (.int 0))) (.and (.not (.cmp .lss (.int 18446744073709551615) (.var 10))) (.and (.not (.cmp .lss (.var 10) (.int 0))) (.and (.not (.cmp .lss (.int 18446744073709551615) (.var 5))) (.and (.not (.cmp .lss (.var 5) (.int 0))) (.and (.not (.cmp .lss (.int 18446744073709551615) (.var 0))) (.and (.not (.cmp .lss (.var 0) (.int 0))) (.fn 27 (.pr (.fn 23 (.pr (.int 3) (.fn 23 (.pr (.int 3) (.fn 23 (.pr (.int 7) (.fn 10 (.int 0)))))))) (.var 4))))))))))))) (.not (.cmp .lss (.ar .add .u64 (.var 10) (.mn (.mn (.ar .sub .u64 (.mx (.var 5) (.fn 1 (.pr (.var 4) (.fn 6 (.pr (.fn 8 (.pr (.var 13) (.int 3))) (.int 2)))))) (.var 12)) (.var 0)) (.ar .sub .u64 (.int 18446744073709551615) (.var 10)))) (.int 0))))
theorem fact56 (ρ : Env) : E.B ρ f56 = true := by
  unfold f56
  simp only [sm_I_int, sm_I_mn, sm_I_mx, sm_I_add_u64, sm_I_sub_u64, sm_I_add_i64, sm_I_sub_i64, sm_I_mul_i64, sm_I_fn6, sm_I_fn7, sm_I_fn8, sm_B_bool, sm_B_eql, sm_B_lss, sm_B_not, sm_B_and, sm_B_imp, sm_B_iff]
  rintro ⟨p0, p1, p2, p3, p4, p5, p6, p7, p8, p9, p10⟩
  have z0 := elem_range (i := (.var 13)) (w := 3) (j := 2) (k := 7) p10 rfl rfl (by decide) (by omega)
  clear p10
  simp only [kindLo, kindHi] at z0
  try generalize E.I ρ (.var 13) = x0 at *
  try generalize E.I ρ (.var 12) = x1 at *
  try generalize E.I ρ (.var 10) = x2 at *
  try generalize E.I ρ (.var 5) = x3 at *
  try generalize E.I ρ (.var 0) = x4 at *
  try generalize E.I ρ (.fn 1 (.pr (.var 4) (.fn 6 (.pr (.fn 8 (.pr (.var 13) (.int 3))) (.int 2))))) = x5 at *
  have rx1 : 0 ≤ x1 ∧ x1 < 18446744073709551616 := by omega
  have rx2 : 0 ≤ x2 ∧ x2 < 18446744073709551616 := by omega
  have rx3 : 0 ≤ x3 ∧ x3 < 18446744073709551616 := by omega
  have rx4 : 0 ≤ x4 ∧ x4 < 18446744073709551616 := by omega
  have rx5 : 0 ≤ x5 ∧ x5 < 18446744073709551616 := by omega
  obtain ⟨y0, e0, q0, h0⟩ := cs_max rx3 rx5
  try simp only [e0] at *
  obtain ⟨y1, e1, q1, h1⟩ := cs_sub q0 rx1
  try simp only [e1] at *
  obtain ⟨y2, e2, q2, h2⟩ := cs_min q1 rx4
  try simp only [e2] at *
  obtain ⟨y3, e3, q3, h3⟩ := cs_sub (by omega : (0:Int) ≤ 18446744073709551615 ∧ (18446744073709551615:Int) < 18446744073709551616) rx2
  try simp only [e3] at *
  obtain ⟨y4, e4, q4, h4⟩ := cs_min q2 q3
  try simp only [e4] at *
  obtain ⟨y5, e5, q5, h5⟩ := cs_add rx2 q4
  try simp only [e5] at *
  omega
noncomputable def f57 : E := (.imp (.and (.not (.cmp .lss (.int 80) (.var 13))) (.and (.not (.cmp .lss (.var 13) (.int 0))) (.and (.not (.cmp .lss (.int 18446744073709551615) (.var 12))) (.and (.not (.cmp .lss (.var 12) (.int 0))) (.and (.not (.cmp .lss (.int 18446744073709551615) (.var 10))) (.and (.not (.cmp .lss (.var 10) (.int 0))) (.and (.not (.cmp .lss (.int 18446744073709551615) (.var 5))) (.and (.not (.cmp .lss (.var 5) (.int 0))) (.and (.not (.cmp .lss (.int 18446744073709551615) (.var 0))) (.and (.not (.cmp .lss (.var 0) (.int 0))) (.fn 27 (.pr (.fn 23 (.pr (.int 3) (.fn 23 (.pr (.int 3) (.fn 23 (.pr (.int 7) (.fn 10 (.int 0)))))))) (.var 4))))))))))))) (.not (.cmp .lss (.int 18446744073709551615) (.ar .add .u64 (.var 10) (.mn (.mn (.ar .sub .u64 (.mx (.var 5) (.fn 1 (.pr (.var 4) (.fn 6 (.pr (.fn 8 (.pr (.var 13) (.int 3))) (.int 2)))))) (.var 12)) (.var 0)) (.ar .sub .u64 (.int 18446744073709551615) (.var 10)))))))
theorem fact57 (ρ : Env) : E.B ρ f57 = true := by
  unfold f57
  simp only [sm_I_int, sm_I_mn, sm_I_mx, sm_I_add_u64, sm_I_sub_u64, sm_I_add_i64, sm_I_sub_i64, sm_I_mul_i64, sm_I_fn6, sm_I_fn7, sm_I_fn8, sm_B_bool, sm_B_eql, sm_B_lss, sm_B_not, sm_B_and, sm_B_imp, sm_B_iff]
  rintro ⟨p0, p1, p2, p3, p4, p5, p6, p7, p8, p9, p10⟩
  have z0 := elem_range (i := (.var 13)) (w := 3) (j := 2) (k := 7) p10 rfl rfl (by decide) (by omega)
  clear p10
  simp only [kindLo, kindHi] at z0
  try generalize E.I ρ (.var 13) = x0 at *
  try generalize E.I ρ (.var 12) = x1 at *
  try generalize E.I ρ (.var 10) = x2 at *
  try generalize E.I ρ (.var 5) = x3 at *
  try generalize E.I ρ (.var 0) = x4 at *
  try generalize E.I ρ (.fn 1 (.pr (.var 4) (.fn 6 (.pr (.fn 8 (.pr (.var 13) (.int 3))) (.int 2))))) = x5 at *
  have rx1 : 0 ≤ x1 ∧ x1 < 18446744073709551616 := by omega
  have rx2 : 0 ≤ x2 ∧ x2 < 18446744073709551616 := by omega
  have rx3 : 0 ≤ x3 ∧ x3 < 18446744073709551616 := by omega
  have rx4 : 0 ≤ x4 ∧ x4 < 18446744073709551616 := by omega
  have rx5 : 0 ≤ x5 ∧ x5 < 18446744073709551616 := by omega
  obtain ⟨y0, e0, q0, h0⟩ := cs_max rx3 rx5
  try simp only [e0] at *
  obtain ⟨y1, e1, q1, h1⟩ := cs_sub q0 rx1
  try simp only [e1] at *
  obtain ⟨y2, e2, q2, h2⟩ := cs_min q1 rx4
  try simp only [e2] at *
  obtain ⟨y3, e3, q3, h3⟩ := cs_sub (by omega : (0:Int) ≤ 18446744073709551615 ∧ (18446744073709551615:Int) < 18446744073709551616) rx2
  try simp only [e3] at *
  obtain ⟨y4, e4, q4, h4⟩ := cs_min q2 q3
  try simp only [e4] at *
  obtain ⟨y5, e5, q5, h5⟩ := cs_add rx2 q4
  try simp only [e5] at *
  omega
noncomputable def f58 : E := (.imp (.and (.not (.cmp .lss (.int 80) (.var 13))) (.and (.not (.cmp .lss (.var 13) (.int 0))) (.and (.not (.cmp .lss (.int 18446744073709551615) (.var 12))) (.and (.not (.cmp .lss (.var 12) (.int 0))) (.and (.not (.cmp .lss (.int 18446744073709551615) (.var 11))) (.and (.not (.cmp .lss (.var 11) (.int 0))) (.and (.not (.cmp .lss (.int 18446744073709551615) (.var 9))) (.and (.not (.cmp .lss (.var 9) (.int 0))) (.and (.not (.cmp .lss (.int 18446744073709551615) (.var 5))) (.and (.not (.cmp .lss (.var 5) (.int 0))) (.and (.not (.cmp .lss (.int 18446744073709551615) (.var 0))) (.and (.not (.cmp .lss (.var 0) (.int 0))) (.fn 27 (.pr (.fn 23 (.pr (.int 3) (.fn 23 (.pr (.int 3) (.fn 23 (.pr (.int 7) (.fn 10 (.int 0)))))))) (.var 4))))))))))))))) (.not (.cmp .lss (.ar .add .u64 (.var 11) (.mn (.mn (.ar .sub .u64 (.ar .sub .u64 (.mx (.var 5) (.fn 1 (.pr (.var 4) (.fn 6 (.pr (.fn 8 (.pr (.var 13) (.int 3))) (.int 2)))))) (.var 12)) (.mn (.ar .sub .u64 (.mx (.var 5) (.fn 1 (.pr (.var 4) (.fn 6 (.pr (.fn 8 (.pr (.var 13) (.int 3))) (.int 2)))))) (.var 12)) (.var 0))) (.var 9)) (.ar .sub .u64 (.int 18446744073709551615) (.var 11)))) (.int 0))))
theorem fact58 (ρ : Env) : E.B ρ f58 = true := by
  unfold f58
  simp only [sm_I_int, sm_I_mn, sm_I_mx, sm_I_add_u64, sm_I_sub_u64, sm_I_add_i64, sm_I_sub_i64, sm_I_mul_i64, sm_I_fn6, sm_I_fn7, sm_I_fn8, sm_B_bool, sm_B_eql, sm_B_lss, sm_B_not, sm_B_and, sm_B_imp, sm_B_iff]
  rintro ⟨p0, p1, p2, p3, p4, p5, p6, p7, p8, p9, p10, p11, p12⟩
  have z0 := elem_range (i := (.var 13)) (w := 3) (j := 2) (k := 7) p12 rfl rfl (by decide) (by omega)
  clear p12
  simp only [kindLo, kindHi] at z0
  try generalize E.I ρ (.var 13) = x0 at *
  try generalize E.I ρ (.var 12) = x1 at *
  try generalize E.I ρ (.var 11) = x2 at *
  try generalize E.I ρ (.var 9) = x3 at *
  try generalize E.I ρ (.var 5) = x4 at *
  try generalize E.I ρ (.var 0) = x5 at *
  try generalize E.I ρ (.fn 1 (.pr (.var 4) (.fn 6 (.pr (.fn 8 (.pr (.var 13) (.int 3))) (.int 2))))) = x6 at *
  have rx1 : 0 ≤ x1 ∧ x1 < 18446744073709551616 := by omega
  have rx2 : 0 ≤ x2 ∧ x2 < 18446744073709551616 := by omega
  have rx3 : 0 ≤ x3 ∧ x3 < 18446744073709551616 := by omega
  have rx4 : 0 ≤ x4 ∧ x4 < 18446744073709551616 := by omega
  have rx5 : 0 ≤ x5 ∧ x5 < 18446744073709551616 := by omega
  have rx6 : 0 ≤ x6 ∧ x6 < 18446744073709551616 := by omega
  obtain ⟨y0, e0, q0, h0⟩ := cs_max rx4 rx6
  try simp only [e0] at *
  obtain ⟨y1, e1, q1, h1⟩ := cs_sub q0 rx1
  try simp only [e1] at *
  obtain ⟨y2, e2, q2, h2⟩ := cs_min q1 rx5
  try simp only [e2] at *
  obtain ⟨y3, e3, q3, h3⟩ := cs_sub q1 q2
  try simp only [e3] at *
  obtain ⟨y4, e4, q4, h4⟩ := cs_min q3 rx3
  try simp only [e4] at *
  obtain ⟨y5, e5, q5, h5⟩ := cs_sub (by omega : (0:Int) ≤ 18446744073709551615 ∧ (18446744073709551615:Int) < 18446744073709551616) rx2
  try simp only [e5] at *
  obtain ⟨y6, e6, q6, h6⟩ := cs_min q4 q5
  try simp only [e6] at *
  obtain ⟨y7, e7, q7, h7⟩ := cs_add rx2 q6
  try simp only [e7] at *
  omega
noncomputable def f59 : E := (.imp (.and (.not (.cmp .lss (.int 80) (.var 13))) (.and (.not (.cmp .lss (.var 13) (.int 0))) (.and (.not (.cmp .lss (.int 18446744073709551615) (.var 12))) (.and (.not (.cmp .lss (.var 12) (.int 0))) (.and (.not (.cmp .lss (.int 18446744073709551615) (.var 11))) (.and (.not (.cmp .lss (.var 11) (.int 0))) (.and (.not (.cmp .lss (.int 18446744073709551615) (.var 9))) (.and (.not (.cmp .lss (.var 9) (.int 0))) (.and (.not (.cmp .lss (.int 18446744073709551615) (.var 5))) (.and (.not (.cmp .lss (.var 5) (.int 0))) (.and (.not (.cmp .lss (.int 18446744073709551615) (.var 0))) (.and (.not (.cmp .lss (.var 0) (.int 0))) (.fn 27 (.pr (.fn 23 (.pr (.int 3) (.fn 23 (.pr (.int 3) (.fn 23 (.pr (.int 7) (.fn 10 (.int 0)))))))) (.var 4))))))))))))))) (.not (.cmp .lss (.int 18446744073709551615) (.ar .add .u64 (.var 11) (.mn (.mn (.ar .sub .u64 (.ar .sub .u64 (.mx (.var 5) (.fn 1 (.pr (.var 4) (.fn 6 (.pr (.fn 8 (.pr (.var 13) (.int 3))) (.int 2)))))) (.var 12)) (.mn (.ar .sub .u64 (.mx (.var 5) (.fn 1 (.pr (.var 4) (.fn 6 (.pr (.fn 8 (.pr (.var 13) (.int 3))) (.int 2)))))) (.var 12)) (.var 0))) (.var 9)) (.ar .sub .u64 (.int 18446744073709551615) (.var 11)))))))
theorem fact59 (ρ : Env) : E.B ρ f59 = true := by
  unfold f59
  simp only [sm_I_int, sm_I_mn, sm_I_mx, sm_I_add_u64, sm_I_sub_u64, sm_I_add_i64, sm_I_sub_i64, sm_I_mul_i64, sm_I_fn6, sm_I_fn7, sm_I_fn8, sm_B_bool, sm_B_eql, sm_B_lss, sm_B_not, sm_B_and, sm_B_imp, sm_B_iff]
  rintro ⟨p0, p1, p2, p3, p4, p5, p6, p7, p8, p9, p10, p11, p12⟩
  have z0 := elem_range (i := (.var 13)) (w := 3) (j := 2) (k := 7) p12 rfl rfl (by decide) (by omega)
  clear p12
  simp only [kindLo, kindHi] at z0
  try generalize E.I ρ (.var 13) = x0 at *
  try generalize E.I ρ (.var 12) = x1 at *
  try generalize E.I ρ (.var 11) = x2 at *
  try generalize E.I ρ (.var 9) = x3 at *
  try generalize E.I ρ (.var 5) = x4 at *
  try generalize E.I ρ (.var 0) = x5 at *
  try generalize E.I ρ (.fn 1 (.pr (.var 4) (.fn 6 (.pr (.fn 8 (.pr (.var 13) (.int 3))) (.int 2))))) = x6 at *
  have rx1 : 0 ≤ x1 ∧ x1 < 18446744073709551616 := by omega
  have rx2 : 0 ≤ x2 ∧ x2 < 18446744073709551616 := by omega
  have rx3 : 0 ≤ x3 ∧ x3 < 18446744073709551616 := by omega
  have rx4 : 0 ≤ x4 ∧ x4 < 18446744073709551616 := by omega
  have rx5 : 0 ≤ x5 ∧ x5 < 18446744073709551616 := by omega
  have rx6 : 0 ≤ x6 ∧ x6 < 18446744073709551616 := by omega
  obtain ⟨y0, e0, q0, h0⟩ := cs_max rx4 rx6
  try simp only [e0] at *
  obtain ⟨y1, e1, q1, h1⟩ := cs_sub q0 rx1
  try simp only [e1] at *
  obtain ⟨y2, e2, q2, h2⟩ := cs_min q1 rx5
  try simp only [e2] at *
  obtain ⟨y3, e3, q3, h3⟩ := cs_sub q1 q2
  try simp only [e3] at *
  obtain ⟨y4, e4, q4, h4⟩ := cs_min q3 rx3
  try simp only [e4] at *
  obtain ⟨y5, e5, q5, h5⟩ := cs_sub (by omega : (0:Int) ≤ 18446744073709551615 ∧ (18446744073709551615:Int) < 18446744073709551616) rx2
  try simp only [e5] at *
  obtain ⟨y6, e6, q6, h6⟩ := cs_min q4 q5
  try simp only [e6] at *
  obtain ⟨y7, e7, q7, h7⟩ := cs_add rx2 q6
  try simp only [e7] at *
  omega
noncomputable def f60 : E := (.imp (.and (.not (.cmp .lss (.var 3) (.var 9))) (.and (.not (.cmp .lss (.int 80) (.var 13))) (.and (.not (.cmp .lss (.var 13) (.int 0))) (.and (.not (.cmp .lss (.int 18446744073709551615) (.var 12))) (.and (.not (.cmp .lss (.var 12) (.int 0))) (.and (.not (.cmp .lss (.int 18446744073709551615) (.var 9))) (.and (.not (.cmp .lss (.var 9) (.int 0))) (.and (.not (.cmp .lss (.int 18446744073709551615) (.var 5))) (.and (.not (.cmp .lss (.var 5) (.int 0))) (.and (.not (.cmp .lss (.int 18446744073709551615) (.var 3))) (.and (.not (.cmp .lss (.var 3) (.int 0))) (.and (.not (.cmp .lss (.int 18446744073709551615) (.var 0))) (.and (.not (.cmp .lss (.var 0) (.int 0))) (.fn 27 (.pr (.fn 23 (.pr (.int 3) (.fn 23 (.pr (.int 3) (.fn 23 (.pr (.int 7) (.fn 10 (.int 0)))))))) (.var 4)))))))))))))))) (.not (.cmp .lss (.var 3) (.ar .sub .u64 (.var 9) (.mn (.ar .sub .u64 (.ar .sub .u64 (.mx (.var 5) (.fn 1 (.pr (.var 4) (.fn 6 (.pr (.fn 8 (.pr (.var 13) (.int 3))) (.int 2)))))) (.var 12)) (.mn (.ar .sub .u64 (.mx (.var 5) (.fn 1 (.pr (.var 4) (.fn 6 (.pr (.fn 8 (.pr (.var 13) (.int 3))) (.int 2)))))) (.var 12)) (.var 0))) (.var 9))))))
theorem fact60 (ρ : Env) : E.B ρ f60 = true := by
  unfold f60
  simp only [sm_I_int, sm_I_mn, sm_I_mx, sm_I_add_u64, sm_I_sub_u64, sm_I_add_i64, sm_I_sub_i64, sm_I_mul_i64, sm_I_fn6, sm_I_fn7, sm_I_fn8, sm_B_bool, sm_B_eql, sm_B_lss, sm_B_not, sm_B_and, sm_B_imp, sm_B_iff]
  rintro ⟨p0, p1, p2, p3, p4, p5, p6, p7, p8, p9, p10, p11, p12, p13⟩
  have z0 := elem_range (i := (.var 13)) (w := 3) (j := 2) (k := 7) p13 rfl rfl (by decide) (by omega)
  clear p13
  simp only [kindLo, kindHi] at z0
  try generalize E.I ρ (.var 3) = x0 at *
  try generalize E.I ρ (.var 9) = x1 at *
  try generalize E.I ρ (.var 13) = x2 at *
  try generalize E.I ρ (.var 12) = x3 at *
  try generalize E.I ρ (.var 5) = x4 at *
  try generalize E.I ρ (.var 0) = x5 at *
  try generalize E.I ρ (.fn 1 (.pr (.var 4) (.fn 6 (.pr (.fn 8 (.pr (.var 13) (.int 3))) (.int 2))))) = x6 at *
  have rx0 : 0 ≤ x0 ∧ x0 < 18446744073709551616 := by omega
  have rx1 : 0 ≤ x1 ∧ x1 < 18446744073709551616 := by omega
  have rx3 : 0 ≤ x3 ∧ x3 < 18446744073709551616 := by omega
  have rx4 : 0 ≤ x4 ∧ x4 < 18446744073709551616 := by omega
  have rx5 : 0 ≤ x5 ∧ x5 < 18446744073709551616 := by omega
  have rx6 : 0 ≤ x6 ∧ x6 < 18446744073709551616 := by omega
  obtain ⟨y0, e0, q0, h0⟩ := cs_max rx4 rx6
  try simp only [e0] at *
  obtain ⟨y1, e1, q1, h1⟩ := cs_sub q0 rx3
  try simp only [e1] at *
  obtain ⟨y2, e2, q2, h2⟩ := cs_min q1 rx5
  try simp only [e2] at *
  obtain ⟨y3, e3, q3, h3⟩ := cs_sub q1 q2
  try simp only [e3] at *
  obtain ⟨y4, e4, q4, h4⟩ := cs_min q3 rx1
  try simp only [e4] at *
  obtain ⟨y5, e5, q5, h5⟩ := cs_sub rx1 q4
  try simp only [e5] at *
  omega
noncomputable def facts : List E := [f0, f1, f2, f3, f4, f5, f6, f7, f8, f9, f10, f11, f12, f13, f14, f15, f16, f17, f18, f19, f20, f21, f22, f23, f24, f25, f26, f27, f28, f29, f30, f31, f32, f33, f34, f35, f36, f37, f38, f39, f40, f41, f42, f43, f44, f45, f46, f47, f48, f49, f50, f51, f52, f53, f54, f55, f56, f57, f58, f59, f60]
theorem facts_ok : ∀ e ∈ facts, ∀ ρ : Env, E.B ρ e = true := (all_cons fact0 (all_cons fact1 (all_cons fact2 (all_cons fact3 (all_cons fact4 (all_cons fact5 (all_cons fact6 (all_cons fact7 (all_cons fact8 (all_cons fact9 (all_cons fact10 (all_cons fact11 (all_cons fact12 (all_cons fact13 (all_cons fact14 (all_cons fact15 (all_cons fact16 (all_cons fact17 (all_cons fact18 (all_cons fact19 (all_cons fact20 (all_cons fact21 (all_cons fact22 (all_cons fact23 (all_cons fact24 (all_cons fact25 (all_cons fact26 (all_cons fact27 (all_cons fact28 (all_cons fact29 (all_cons fact30 (all_cons fact31 (all_cons fact32 (all_cons fact33 (all_cons fact34 (all_cons fact35 (all_cons fact36 (all_cons fact37 (all_cons fact38 (all_cons fact39 (all_cons fact40 (all_cons fact41 (all_cons fact42 (all_cons fact43 (all_cons fact44 (all_cons fact45 (all_cons fact46 (all_cons fact47 (all_cons fact48 (all_cons fact49 (all_cons fact50 (all_cons fact51 (all_cons fact52 (all_cons fact53 (all_cons fact54 (all_cons fact55 (all_cons fact56 (all_cons fact57 (all_cons fact58 (all_cons fact59 (all_cons fact60 all_nil)))))))))))))))))))))))))))))))))))))))))))))))))))))))))))))
end l0
set_option maxRecDepth 100000 in
theorem body0_0_0 : BodyOk Try.prog (ann1 (some y1)) y1 (tmpl .nilp).less (tmpl .nilp).tmps { (tmpl .nilp).st with pc := (what 0) :: (tmpl .nilp).st.pc } :=
  body_of_check good (facts := l0.facts) l0.facts_ok (anns := []) (plainAnns_ok _ (by kernel_rfl)) (nats := natl0) natl0_ok (n := 3000) (by kernel_rfl) (by kernel_rfl)
set_option maxRecDepth 100000 in
theorem body0_0_1 : BodyOk Try.prog (ann1 (some y1)) y1 (tmpl .nilp).less (tmpl .nilp).tmps { (tmpl .nilp).st with pc := (what 1) :: .not (what 0) :: (tmpl .nilp).st.pc } :=
  body_of_check good (facts := l0.facts) l0.facts_ok (anns := []) (plainAnns_ok _ (by kernel_rfl)) (nats := natl0) natl0_ok (n := 3000) (by kernel_rfl) (by kernel_rfl)
set_option maxRecDepth 100000 in
theorem body0_0_2 : BodyOk Try.prog (ann1 (some y1)) y1 (tmpl .nilp).less (tmpl .nilp).tmps { (tmpl .nilp).st with pc := (what 3) :: .not (what 1) :: .not (what 0) :: (tmpl .nilp).st.pc } :=
  body_of_check good (facts := l0.facts) l0.facts_ok (anns := []) (plainAnns_ok _ (by kernel_rfl)) (nats := natl0) natl0_ok (n := 3000) (by kernel_rfl) (by kernel_rfl)
set_option maxRecDepth 100000 in
theorem body0_0_3 : BodyOk Try.prog (ann1 (some y1)) y1 (tmpl .nilp).less (tmpl .nilp).tmps { (tmpl .nilp).st with pc := .not (what 3) :: .not (what 1) :: .not (what 0) :: (tmpl .nilp).st.pc } :=
  body_of_check good (facts := l0.facts) l0.facts_ok (anns := []) (plainAnns_ok _ (by kernel_rfl)) (nats := natl0) natl0_ok (n := 3000) (by kernel_rfl) (by kernel_rfl)
theorem body0_0 : BodyOk Try.prog (ann1 (some y1)) y1 (tmpl .nilp).less (tmpl .nilp).tmps (tmpl .nilp).st := (BodyOk.cases (what 0) body0_0_0 (BodyOk.cases (what 1) body0_0_1 (BodyOk.cases (what 3) body0_0_2 body0_0_3)))
set_option maxRecDepth 100000 in
theorem body0_1_0 : BodyOk Try.prog (ann1 (some y1)) y1 (tmpl (p 2 5)).less (tmpl (p 2 5)).tmps { (tmpl (p 2 5)).st with pc := (what 0) :: (tmpl (p 2 5)).st.pc } :=
  body_of_check good (facts := l0.facts) l0.facts_ok (anns := []) (plainAnns_ok _ (by kernel_rfl)) (nats := natl0) natl0_ok (n := 3000) (by kernel_rfl) (by kernel_rfl)
set_option maxRecDepth 100000 in
theorem body0_1_1 : BodyOk Try.prog (ann1 (some y1)) y1 (tmpl (p 2 5)).less (tmpl (p 2 5)).tmps { (tmpl (p 2 5)).st with pc := (what 1) :: .not (what 0) :: (tmpl (p 2 5)).st.pc } :=
  body_of_check good (facts := l0.facts) l0.facts_ok (anns := []) (plainAnns_ok _ (by kernel_rfl)) (nats := natl0) natl0_ok (n := 3000) (by kernel_rfl) (by kernel_rfl)
set_option maxRecDepth 100000 in
theorem body0_1_2 : BodyOk Try.prog (ann1 (some y1)) y1 (tmpl (p 2 5)).less (tmpl (p 2 5)).tmps { (tmpl (p 2 5)).st with pc := (what 3) :: .not (what 1) :: .not (what 0) :: (tmpl (p 2 5)).st.pc } :=
  body_of_check good (facts := l0.facts) l0.facts_ok (anns := []) (plainAnns_ok _ (by kernel_rfl)) (nats := natl0) natl0_ok (n := 3000) (by kernel_rfl) (by kernel_rfl)
set_option maxRecDepth 100000 in
theorem body0_1_3 : BodyOk Try.prog (ann1 (some y1)) y1 (tmpl (p 2 5)).less (tmpl (p 2 5)).tmps { (tmpl (p 2 5)).st with pc := .not (what 3) :: .not (what 1) :: .not (what 0) :: (tmpl (p 2 5)).st.pc } :=
  body_of_check good (facts := l0.facts) l0.facts_ok (anns := []) (plainAnns_ok _ (by kernel_rfl)) (nats := natl0) natl0_ok (n := 3000) (by kernel_rfl) (by kernel_rfl)
theorem body0_1 : BodyOk Try.prog (ann1 (some y1)) y1 (tmpl (p 2 5)).less (tmpl (p 2 5)).tmps (tmpl (p 2 5)).st := (BodyOk.cases (what 0) body0_1_0 (BodyOk.cases (what 1) body0_1_1 (BodyOk.cases (what 3) body0_1_2 body0_1_3)))
set_option maxRecDepth 100000 in
theorem body0_2_0 : BodyOk Try.prog (ann1 (some y1)) y1 (tmpl (p 2 8)).less (tmpl (p 2 8)).tmps { (tmpl (p 2 8)).st with pc := (what 0) :: (tmpl (p 2 8)).st.pc } :=
  body_of_check good (facts := l0.facts) l0.facts_ok (anns := []) (plainAnns_ok _ (by kernel_rfl)) (nats := natl0) natl0_ok (n := 3000) (by kernel_rfl) (by kernel_rfl)
set_option maxRecDepth 100000 in
theorem body0_2_1 : BodyOk Try.prog (ann1 (some y1)) y1 (tmpl (p 2 8)).less (tmpl (p 2 8)).tmps { (tmpl (p 2 8)).st with pc := (what 1) :: .not (what 0) :: (tmpl (p 2 8)).st.pc } :=
  body_of_check good (facts := l0.facts) l0.facts_ok (anns := []) (plainAnns_ok _ (by kernel_rfl)) (nats := natl0) natl0_ok (n := 3000) (by kernel_rfl) (by kernel_rfl)
set_option maxRecDepth 100000 in
theorem body0_2_2 : BodyOk Try.prog (ann1 (some y1)) y1 (tmpl (p 2 8)).less (tmpl (p 2 8)).tmps { (tmpl (p 2 8)).st with pc := (what 3) :: .not (what 1) :: .not (what 0) :: (tmpl (p 2 8)).st.pc } :=
  body_of_check good (facts := l0.facts) l0.facts_ok (anns := []) (plainAnns_ok _ (by kernel_rfl)) (nats := natl0) natl0_ok (n := 3000) (by kernel_rfl) (by kernel_rfl)
set_option maxRecDepth 100000 in
theorem body0_2_3 : BodyOk Try.prog (ann1 (some y1)) y1 (tmpl (p 2 8)).less (tmpl (p 2 8)).tmps { (tmpl (p 2 8)).st with pc := .not (what 3) :: .not (what 1) :: .not (what 0) :: (tmpl (p 2 8)).st.pc } :=
  body_of_check good (facts := l0.facts) l0.facts_ok (anns := []) (plainAnns_ok _ (by kernel_rfl)) (nats := natl0) natl0_ok (n := 3000) (by kernel_rfl) (by kernel_rfl)
theorem body0_2 : BodyOk Try.prog (ann1 (some y1)) y1 (tmpl (p 2 8)).less (tmpl (p 2 8)).tmps (tmpl (p 2 8)).st := (BodyOk.cases (what 0) body0_2_0 (BodyOk.cases (what 1) body0_2_1 (BodyOk.cases (what 3) body0_2_2 body0_2_3)))
theorem loop0 : LoopOk Try.prog (ann1 (some y1)) := loop_of_bodies rfl (by kernel_rfl) (by
  intro τ hτ
  rcases List.mem_cons.1 hτ with rfl | hτ
  · exact body0_0
  rcases List.mem_cons.1 hτ with rfl | hτ
  · exact body0_1
  rcases List.mem_cons.1 hτ with rfl | hτ
  · exact body0_2
  cases hτ)
noncomputable def annsM : List Ann := [ann1 (some y1)]
theorem annsM_ok : ∀ x ∈ annsM, LoopOk Try.prog x := by
  intro x hx
  rcases List.mem_cons.1 hx with rfl | hx
  · exact loop0
  cases hx
namespace m
noncomputable def facts : List E := []
theorem facts_ok : ∀ e ∈ facts, ∀ ρ : Env, E.B ρ e = true := all_nil
end m
set_option maxRecDepth 100000 in
theorem reckoned : withTab Try.prog (fun tb => checkAll outTrue (run Try.prog (tb.plus m.facts annsM natl0) 3000 (.call 5 args) .nil (varSt 5 pc0) SX.one)) = true := by kernel_rfl

set_option maxRecDepth 100000 in
theorem walk {H : Type} (W : World) (base : Nat) (enc : TypeId × Value → H) (v0 : Value) (d0 : DataW H) (p0 : List MemPlace) (v1 : Value) (d1 : DataW H) (p1 : List MemPlace)
    (o0 : Value.okWide Try.prog W .any base 25 v0) (h0 : DataW.Trod enc Try.prog W 0 (fun _ => true) true 25 v0 d0 p0)
    (o1 : Value.okWide Try.prog W .any base 43 v1) (h1 : DataW.Trod enc Try.prog W 0 (fun _ => true) true 43 v1 d1 p1) :
    Calls Try.prog 5 #[v0, v1] W fun e W' => e = .returned (.bool true) ∧ Below W.heap.size W W' := by
  obtain ⟨c0_0, c0_1, c0_2, c0_3, y0_0, y0_1, y0_2, y0_3, n0, rfl, _, _, t0_0, t0_1, t0_2, t0_3⟩ := Joins.open_agg4 Try.underlying25 (by kernel_rfl) (by kernel_rfl) o0 h0
  obtain ⟨x0, z0, _, w0⟩ := DataW.trod_int Try.underlying23 t0_0
  simp only [List.cons.injEq, and_true] at z0
  subst z0
  have r0 := wf_u64 w0
  obtain ⟨x1, z1, _, w1⟩ := DataW.trod_int Try.underlying23 t0_1
  simp only [List.cons.injEq, and_true] at z1
  subst z1
  have r1 := wf_u64 w1
  obtain ⟨x2, z2, _, w2⟩ := DataW.trod_int Try.underlying23 t0_2
  simp only [List.cons.injEq, and_true] at z2
  subst z2
  have r2 := wf_u64 w2
  obtain ⟨x3, z3, _, w3⟩ := DataW.trod_int Try.underlying23 t0_3
  simp only [List.cons.injEq, and_true] at z3
  subst z3
  have r3 := wf_u64 w3
  obtain ⟨x4, rfl, k4, w4⟩ := open_slc (n := 9) (ks := [.int .i64, .int .i64, .int .u64]) Try.underlying43 (by kernel_rfl) o1 h1
  have q4 := typ_slc w4
  refine true_of_check2 good (facts := m.facts) m.facts_ok (anns := annsM) annsM_ok natl0_ok (vs := [.int x0, .int x1, .int x2, .int x3, x4]) (pc := pc0) reckoned ?_ W ⟨⟨trivial, trivial, trivial, trivial, trivial⟩, ⟨k4, trivial⟩⟩
  unfold pc0
  simp only [u64R, i64R, List.cons_append, List.nil_append]
  repeat' (refine pc_cons ?_ ?_)
  all_goals first
    | exact pc_nil
    | (first | exact q4 | skip; done)
    | (simp only [eLe, eLt, eV, Env.of, sm_I_int, sm_I_var, sm_B_lss, sm_B_not, getD_cons_zero, getD_cons_succ, toI_int]; omega)

set_option maxRecDepth 100000 in
theorem lifted (os : Os) (started : os.Started) (H : Type) (enc : TypeId × Value → H) :
    ReturnsInHanded {} Try.checked os 5 .any (Rows.clockHoldsSpec.pre6 enc Try.prog Try.f5 Rows.clockHoldsRow.domain false) (Rows.clockHoldsSpec.post enc Try.prog Try.f5 false true false false) := by
  refine returnsInHanded_of_change (C := Try.checked) own started (by kernel_rfl) Try.func5
    (ChangeSpec.witness6 (enc := enc) (C := Try.checked) false ⟨#[], #[.agg #[.int .u64 0, .int .u64 0, .int .u64 0, .int .u64 0], .slice none 0 0], []⟩ 8 (by kernel_rfl) (by kernel_rfl) (by kernel_rfl) (by kernel_rfl)) ?_
  intro W base args ds gs before hval0 hW hcnd _
  have hval : ∀ (j : Nat) t v, Try.f5.params[j]? = some t → args[j]? = some v → Value.okWide Try.prog W .any base t v := hval0
  have hW' := hW
  obtain ⟨p, q, hA0, hV, rfl, hfz, hnd⟩ := hW
  have hA : DataW.TrodAll enc Try.prog W 0 (fun _ => true) true Try.f5.params.toList args.toList ds p := hA0
  rw [Try.params5] at hA hval
  obtain ⟨v0, vs0, d0, ds0, p0, q0, hargs, rfl, rfl, h0, r0⟩ := trodAll_cons hA
  obtain ⟨v1, vs1, d1, ds1, p1, q1, rfl, rfl, rfl, h1, r1⟩ := trodAll_cons r0
  obtain ⟨rfl, rfl, rfl⟩ := trodAll_nil r1
  obtain rfl : args = #[v0, v1] := by cases args; simp_all
  obtain ⟨rfl, rfl⟩ := trodVars_none hV
  have lt0 : ∀ x ∈ p0, x.block < W.heap.size := by obtain ⟨m, hm⟩ := h0; exact DataW.trod_lt m _ _ _ hm
  have lt1 : ∀ x ∈ p1, x.block < W.heap.size := by obtain ⟨m, hm⟩ := h1; exact DataW.trod_lt m _ _ _ hm
  have o0 := hval 0 25 v0 rfl rfl
  have o1 := hval 1 43 v1 rfl rfl
  clear hA0 hval0
  refine (walk W base enc v0 d0 p0 v1 d1 p1 o0 h0 o1 h1).mono fun e W' ⟨he, bel⟩ => ?_
  subst he
  exact ⟨_, rfl, _, _, _, [], _, [], hW', trodAll_mk1 (shut_bool Try.underlying4 _), (trodAll_cons_mk (Below.trod laidOut (by kernel_rfl) (of_decide_eq_true (by kernel_rfl)) h0 bel lt0) (trodAll_cons_mk (Below.trod laidOut (by kernel_rfl) (of_decide_eq_true (by kernel_rfl)) h1 bel lt1) trodAll_mk0)), rfl, bel.frame _, fun h => by cases h⟩

theorem over : Rows.clockHoldsRow.holds Try.pinned (OpenSpec.ofChange Rows.clockHoldsSpec) :=
  OpenClaim.holds_of_wide 5 Try.f5 rfl rfl rfl rfl rfl rfl rfl ⟨rfl, rfl, rfl, rfl, rfl⟩ rfl rfl rfl rfl rfl (by kernel_rfl) Try.func5 (by kernel_rfl)
    (of_decide_eq_true (by kernel_rfl)) (by unfold Func.isWrapper; first | (rw [if_pos (by decide +kernel)]; kernel_rfl) | (rw [if_neg (by decide +kernel)]; exact ⟨rfl, rfl⟩))
    (fun os started H enc _ => lifted os started H enc)

theorem proved : Rows.ClockHoldsSaid := over

end Go.Proofs.Ythgcmholjlijeaa.clockHolds
