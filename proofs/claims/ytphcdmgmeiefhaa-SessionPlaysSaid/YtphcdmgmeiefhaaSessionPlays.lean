/-
  SessionPlays: one reckoning by the kernel, with what is known at the loops' heads, contracts of functions, and facts of arithmetic.
-/
import Derived.Test.YtphcdmgmeiefhaaRows
import Derived.Test.YtphcdmgmeiefhaaTheory
import Derived.WalkKit
import Derived.ProofKit
import Derived.OpenShut
import Derived.ChangeOld
import Derived.Below
import Derived.KernelRfl
import Derived.Lib.SmallJoins
import Derived.Test.YtphcdmgmeiefhaaSessionPlaysParta
namespace Go.Proofs.Ytphcdmgmeiefhaa.sessionPlays
open Go.ChangeShapes Go.WideShapes Go.ChangeAt Go.RowKit
open Go.SX
set_option linter.unusedVariables false
set_option linter.unusedSimpArgs false
set_option maxRecDepth 100000
namespace l0
noncomputable def f0 : E := (.imp (.and (.cmp .lss (.var 3) (.fn 9 (.pr (.var 2) (.int 4)))) (.and (.not (.cmp .lss (.var 4) (.int 0))) (.and (.not (.cmp .lss (.var 4) (.int 1))) (.and (.not (.cmp .lss (.int 80) (.fn 9 (.pr (.var 2) (.int 4))))) (.and (.not (.cmp .lss (.fn 9 (.pr (.var 2) (.int 4))) (.var 3))) (.and (.not (.cmp .lss (.int 80) (.var 3))) (.not (.cmp .lss (.var 3) (.int 0))))))))) (.fn 110 (.pr (.fn 23 (.pr (.pr (.int 0) (.int (-1))) (.fn 10 (.int 0)))) (.pr (.fn 23 (.pr (.bool true) (.fn 23 (.pr (.int (-1)) (.fn 10 (.int 0)))))) (.pr (.int (-1)) (.pr (.int (-1)) (.int 1)))))))
theorem fact0 (ρ : Env) : E.B ρ f0 = true := by
  unfold f0
  simp only [sm_B_imp, sm_B_and, sm_B_not, sm_B_lss]
  intros
  show rel30 [.lst [.int 0, .int (-1)]] [.bool true, .int (-1)] (-1) (-1) 1 = true
  rfl
noncomputable def f1 : E := (.imp (.and (.not (.cmp .lss (.int 80) (.fn 9 (.pr (.var 2) (.int 4))))) (.and (.not (.cmp .lss (.fn 9 (.pr (.var 2) (.int 4))) (.var 3))) (.and (.not (.cmp .lss (.int 80) (.var 3))) (.not (.cmp .lss (.var 3) (.int 0)))))) (.not (.cmp .lss (.ar .add .i64 (.var 3) (.int 1)) (.int 0))))
theorem fact1 (ρ : Env) : E.B ρ f1 = true := by
  unfold f1
  simp only [sm_I_int, sm_I_mn, sm_I_mx, sm_I_add_u64, sm_I_sub_u64, sm_I_add_i64, sm_I_sub_i64, sm_I_mul_i64, sm_I_fn6, sm_I_fn7, sm_I_fn8, sm_B_bool, sm_B_eql, sm_B_lss, sm_B_not, sm_B_and, sm_B_imp, sm_B_iff]
  rintro ⟨p0, p1, p2, p3⟩
  try generalize E.I ρ (.fn 9 (.pr (.var 2) (.int 4))) = x0 at *
  try generalize E.I ρ (.var 3) = x1 at *
  obtain ⟨y0, e0, q0, h0⟩ := cs_i64 (x1 + 1)
  try simp only [e0] at *
  omega
noncomputable def f2 : E := (.imp (.and (.not (.cmp .lss (.int 80) (.fn 9 (.pr (.var 2) (.int 4))))) (.and (.not (.cmp .lss (.fn 9 (.pr (.var 2) (.int 4))) (.var 3))) (.and (.not (.cmp .lss (.int 80) (.var 3))) (.not (.cmp .lss (.var 3) (.int 0)))))) (.not (.cmp .lss (.ar .add .i64 (.var 3) (.int 1)) (.int 1))))
theorem fact2 (ρ : Env) : E.B ρ f2 = true := by
  unfold f2
  simp only [sm_I_int, sm_I_mn, sm_I_mx, sm_I_add_u64, sm_I_sub_u64, sm_I_add_i64, sm_I_sub_i64, sm_I_mul_i64, sm_I_fn6, sm_I_fn7, sm_I_fn8, sm_B_bool, sm_B_eql, sm_B_lss, sm_B_not, sm_B_and, sm_B_imp, sm_B_iff]
  rintro ⟨p0, p1, p2, p3⟩
  try generalize E.I ρ (.fn 9 (.pr (.var 2) (.int 4))) = x0 at *
  try generalize E.I ρ (.var 3) = x1 at *
  obtain ⟨y0, e0, q0, h0⟩ := cs_i64 (x1 + 1)
  try simp only [e0] at *
  omega
noncomputable def f3 : E := (.imp (.and (.cmp .lss (.var 3) (.fn 9 (.pr (.var 2) (.int 4)))) (.and (.not (.cmp .lss (.int 80) (.fn 9 (.pr (.var 2) (.int 4))))) (.and (.not (.cmp .lss (.fn 9 (.pr (.var 2) (.int 4))) (.var 3))) (.and (.not (.cmp .lss (.int 80) (.var 3))) (.not (.cmp .lss (.var 3) (.int 0))))))) (.not (.cmp .lss (.int 80) (.ar .add .i64 (.var 3) (.int 1)))))
theorem fact3 (ρ : Env) : E.B ρ f3 = true := by
  unfold f3
  simp only [sm_I_int, sm_I_mn, sm_I_mx, sm_I_add_u64, sm_I_sub_u64, sm_I_add_i64, sm_I_sub_i64, sm_I_mul_i64, sm_I_fn6, sm_I_fn7, sm_I_fn8, sm_B_bool, sm_B_eql, sm_B_lss, sm_B_not, sm_B_and, sm_B_imp, sm_B_iff]
  rintro ⟨p0, p1, p2, p3, p4⟩
  try generalize E.I ρ (.var 3) = x0 at *
  try generalize E.I ρ (.fn 9 (.pr (.var 2) (.int 4))) = x1 at *
  obtain ⟨y0, e0, q0, h0⟩ := cs_i64 (x0 + 1)
  try simp only [e0] at *
  omega
noncomputable def f4 : E := (.imp (.and (.cmp .lss (.var 3) (.fn 9 (.pr (.var 2) (.int 4)))) (.and (.not (.cmp .lss (.int 80) (.fn 9 (.pr (.var 2) (.int 4))))) (.and (.not (.cmp .lss (.fn 9 (.pr (.var 2) (.int 4))) (.var 3))) (.and (.not (.cmp .lss (.int 80) (.var 3))) (.not (.cmp .lss (.var 3) (.int 0))))))) (.not (.cmp .lss (.fn 9 (.pr (.var 2) (.int 4))) (.ar .add .i64 (.var 3) (.int 1)))))
theorem fact4 (ρ : Env) : E.B ρ f4 = true := by
  unfold f4
  simp only [sm_I_int, sm_I_mn, sm_I_mx, sm_I_add_u64, sm_I_sub_u64, sm_I_add_i64, sm_I_sub_i64, sm_I_mul_i64, sm_I_fn6, sm_I_fn7, sm_I_fn8, sm_B_bool, sm_B_eql, sm_B_lss, sm_B_not, sm_B_and, sm_B_imp, sm_B_iff]
  rintro ⟨p0, p1, p2, p3, p4⟩
  try generalize E.I ρ (.var 3) = x0 at *
  try generalize E.I ρ (.fn 9 (.pr (.var 2) (.int 4))) = x1 at *
  obtain ⟨y0, e0, q0, h0⟩ := cs_i64 (x0 + 1)
  try simp only [e0] at *
  omega
noncomputable def f5 : E := (.imp (.and (.not (.cmp .lss (.int 80) (.fn 9 (.pr (.var 2) (.int 4))))) (.and (.not (.cmp .lss (.fn 9 (.pr (.var 2) (.int 4))) (.var 3))) (.and (.not (.cmp .lss (.int 80) (.var 3))) (.not (.cmp .lss (.var 3) (.int 0)))))) (.cmp .lss (.fn 7 (.pr (.fn 9 (.pr (.var 2) (.int 4))) (.ar .add .i64 (.var 3) (.int 1)))) (.fn 7 (.pr (.fn 9 (.pr (.var 2) (.int 4))) (.var 3)))))
theorem fact5 (ρ : Env) : E.B ρ f5 = true := by
  unfold f5
  simp only [sm_I_int, sm_I_mn, sm_I_mx, sm_I_add_u64, sm_I_sub_u64, sm_I_add_i64, sm_I_sub_i64, sm_I_mul_i64, sm_I_fn6, sm_I_fn7, sm_I_fn8, sm_B_bool, sm_B_eql, sm_B_lss, sm_B_not, sm_B_and, sm_B_imp, sm_B_iff]
  rintro ⟨p0, p1, p2, p3⟩
  try generalize E.I ρ (.fn 9 (.pr (.var 2) (.int 4))) = x0 at *
  try generalize E.I ρ (.var 3) = x1 at *
  obtain ⟨y0, e0, q0, h0⟩ := cs_i64 (x1 + 1)
  try simp only [e0] at *
  omega
noncomputable def f6 : E := (.imp (.and (.cmp .lss (.var 3) (.fn 9 (.pr (.var 2) (.int 4)))) (.and (.not (.cmp .lss (.int 80) (.fn 9 (.pr (.var 2) (.int 4))))) (.and (.not (.cmp .lss (.fn 9 (.pr (.var 2) (.int 4))) (.var 3))) (.and (.not (.cmp .lss (.int 80) (.var 3))) (.not (.cmp .lss (.var 3) (.int 0))))))) (.not (.cmp .lss (.fn 7 (.pr (.fn 9 (.pr (.var 2) (.int 4))) (.ar .add .i64 (.var 3) (.int 1)))) (.int 0))))
theorem fact6 (ρ : Env) : E.B ρ f6 = true := by
  unfold f6
  simp only [sm_I_int, sm_I_mn, sm_I_mx, sm_I_add_u64, sm_I_sub_u64, sm_I_add_i64, sm_I_sub_i64, sm_I_mul_i64, sm_I_fn6, sm_I_fn7, sm_I_fn8, sm_B_bool, sm_B_eql, sm_B_lss, sm_B_not, sm_B_and, sm_B_imp, sm_B_iff]
  rintro ⟨p0, p1, p2, p3, p4⟩
  try generalize E.I ρ (.var 3) = x0 at *
  try generalize E.I ρ (.fn 9 (.pr (.var 2) (.int 4))) = x1 at *
  obtain ⟨y0, e0, q0, h0⟩ := cs_i64 (x0 + 1)
  try simp only [e0] at *
  omega
noncomputable def f7 : E := (.imp (.not (.seq (.var 0) (.var 1))) (.not (.seq (.var 1) (.var 0))))
theorem fact7 (ρ : Env) : E.B ρ f7 = true := by
  unfold f7
  simp only [sm_B_not, sm_B_imp, sm_B_and]
  intro p
  revert p
  simp only [seq_iff]
  intros
  first
    | (simp_all; done)
    | (intro h; simp_all)
    | grind
noncomputable def f8 : E := (.imp (.seq (.var 0) (.fn 1 (.pr (.var 2) (.fn 6 (.pr (.fn 8 (.pr (.var 3) (.int 4))) (.int 3)))))) (.seq (.fn 1 (.pr (.var 2) (.fn 6 (.pr (.fn 8 (.pr (.var 3) (.int 4))) (.int 3))))) (.var 0)))
theorem fact8 (ρ : Env) : E.B ρ f8 = true := by
  unfold f8
  simp only [sm_B_not, sm_B_imp, sm_B_and]
  intro p
  revert p
  simp only [seq_iff]
  intros
  first
    | (simp_all; done)
    | (intro h; simp_all)
    | grind
noncomputable def f9 : E := (.imp (.seq (.var 1) (.fn 1 (.pr (.var 2) (.fn 6 (.pr (.fn 8 (.pr (.var 3) (.int 4))) (.int 3)))))) (.seq (.fn 1 (.pr (.var 2) (.fn 6 (.pr (.fn 8 (.pr (.var 3) (.int 4))) (.int 3))))) (.var 1)))
theorem fact9 (ρ : Env) : E.B ρ f9 = true := by
  unfold f9
  simp only [sm_B_not, sm_B_imp, sm_B_and]
  intro p
  revert p
  simp only [seq_iff]
  intros
  first
    | (simp_all; done)
    | (intro h; simp_all)
    | grind
noncomputable def f10 : E := (.imp (.not (.seq (.var 0) (.fn 1 (.pr (.var 2) (.fn 6 (.pr (.fn 8 (.pr (.var 3) (.int 4))) (.int 3))))))) (.not (.seq (.fn 1 (.pr (.var 2) (.fn 6 (.pr (.fn 8 (.pr (.var 3) (.int 4))) (.int 3))))) (.var 0))))
theorem fact10 (ρ : Env) : E.B ρ f10 = true := by
  unfold f10
  simp only [sm_B_not, sm_B_imp, sm_B_and]
  intro p
  revert p
  simp only [seq_iff]
  intros
  first
    | (simp_all; done)
    | (intro h; simp_all)
    | grind
noncomputable def f11 : E := (.imp (.not (.seq (.var 1) (.fn 1 (.pr (.var 2) (.fn 6 (.pr (.fn 8 (.pr (.var 3) (.int 4))) (.int 3))))))) (.not (.seq (.fn 1 (.pr (.var 2) (.fn 6 (.pr (.fn 8 (.pr (.var 3) (.int 4))) (.int 3))))) (.var 1))))
theorem fact11 (ρ : Env) : E.B ρ f11 = true := by
  unfold f11
  simp only [sm_B_not, sm_B_imp, sm_B_and]
  intro p
  revert p
  simp only [seq_iff]
  intros
  first
    | (simp_all; done)
    | (intro h; simp_all)
    | grind
noncomputable def f12 : E := (.imp (.and (.not (.cmp .lss (.int 80) (.fn 9 (.pr (.var 2) (.int 4))))) (.and (.not (.cmp .lss (.fn 9 (.pr (.var 2) (.int 4))) (.var 3))) (.and (.not (.cmp .lss (.int 80) (.var 3))) (.and (.not (.cmp .lss (.var 3) (.int 0))) (.and (.not (.cmp .lss (.var 3) (.var 10))) (.and (.not (.cmp .lss (.var 6) (.int 1))) (.and (.not (.cmp .lss (.int 80) (.var 10))) (.cmp .eql (.var 6) (.var 10))))))))) (.not (.cmp .lss (.int 2147483648) (.var 6))))
theorem fact12 (ρ : Env) : E.B ρ f12 = true := by
  unfold f12
  simp only [sm_I_int, sm_I_mn, sm_I_mx, sm_I_add_u64, sm_I_sub_u64, sm_I_add_i64, sm_I_sub_i64, sm_I_mul_i64, sm_I_fn6, sm_I_fn7, sm_I_fn8, sm_B_bool, sm_B_eql, sm_B_lss, sm_B_not, sm_B_and, sm_B_imp, sm_B_iff]
  rintro ⟨p0, p1, p2, p3, p4, p5, p6, p7⟩
  try generalize E.I ρ (.fn 9 (.pr (.var 2) (.int 4))) = x0 at *
  try generalize E.I ρ (.var 3) = x1 at *
  try generalize E.I ρ (.var 10) = x2 at *
  try generalize E.I ρ (.var 6) = x3 at *
  omega
noncomputable def f13 : E := (.imp (.and (.not (.cmp .lss (.int 80) (.fn 9 (.pr (.var 2) (.int 4))))) (.and (.not (.cmp .lss (.fn 9 (.pr (.var 2) (.int 4))) (.var 3))) (.and (.not (.cmp .lss (.int 80) (.var 3))) (.and (.not (.cmp .lss (.var 3) (.int 0))) (.and (.not (.cmp .lss (.var 3) (.var 10))) (.and (.not (.cmp .lss (.var 6) (.int 1))) (.and (.not (.cmp .lss (.int 80) (.var 10))) (.cmp .eql (.var 6) (.var 10))))))))) (.not (.cmp .lss (.int 1000) (.var 6))))
theorem fact13 (ρ : Env) : E.B ρ f13 = true := by
  unfold f13
  simp only [sm_I_int, sm_I_mn, sm_I_mx, sm_I_add_u64, sm_I_sub_u64, sm_I_add_i64, sm_I_sub_i64, sm_I_mul_i64, sm_I_fn6, sm_I_fn7, sm_I_fn8, sm_B_bool, sm_B_eql, sm_B_lss, sm_B_not, sm_B_and, sm_B_imp, sm_B_iff]
  rintro ⟨p0, p1, p2, p3, p4, p5, p6, p7⟩
  try generalize E.I ρ (.fn 9 (.pr (.var 2) (.int 4))) = x0 at *
  try generalize E.I ρ (.var 3) = x1 at *
  try generalize E.I ρ (.var 10) = x2 at *
  try generalize E.I ρ (.var 6) = x3 at *
  omega
noncomputable def f14 : E := (.imp (.and (.not (.cmp .lss (.fn 1 (.pr (.var 2) (.fn 6 (.pr (.fn 8 (.pr (.var 3) (.int 4))) (.int 1))))) (.var 6))) (.and (.not (.cmp .lss (.int 80) (.fn 9 (.pr (.var 2) (.int 4))))) (.and (.not (.cmp .lss (.fn 9 (.pr (.var 2) (.int 4))) (.var 3))) (.and (.not (.cmp .lss (.int 80) (.var 3))) (.and (.not (.cmp .lss (.var 3) (.int 0))) (.and (.not (.cmp .lss (.var 3) (.var 10))) (.and (.not (.cmp .lss (.var 6) (.int 1))) (.and (.not (.cmp .lss (.int 80) (.var 10))) (.cmp .eql (.var 6) (.var 10)))))))))) (.not (.cmp .lss (.fn 1 (.pr (.var 2) (.fn 6 (.pr (.fn 8 (.pr (.var 3) (.int 4))) (.int 1))))) (.var 10))))
theorem fact14 (ρ : Env) : E.B ρ f14 = true := by
  unfold f14
  simp only [sm_I_int, sm_I_mn, sm_I_mx, sm_I_add_u64, sm_I_sub_u64, sm_I_add_i64, sm_I_sub_i64, sm_I_mul_i64, sm_I_fn6, sm_I_fn7, sm_I_fn8, sm_B_bool, sm_B_eql, sm_B_lss, sm_B_not, sm_B_and, sm_B_imp, sm_B_iff]
  rintro ⟨p0, p1, p2, p3, p4, p5, p6, p7, p8⟩
  try generalize E.I ρ (.fn 1 (.pr (.var 2) (.fn 6 (.pr (.fn 8 (.pr (.var 3) (.int 4))) (.int 1))))) = x0 at *
  try generalize E.I ρ (.var 6) = x1 at *
  try generalize E.I ρ (.fn 9 (.pr (.var 2) (.int 4))) = x2 at *
  try generalize E.I ρ (.var 3) = x3 at *
  try generalize E.I ρ (.var 10) = x4 at *
  omega
noncomputable def f15 : E := (.imp (.and (.not (.cmp .lss (.int 80) (.fn 9 (.pr (.var 2) (.int 4))))) (.and (.not (.cmp .lss (.fn 9 (.pr (.var 2) (.int 4))) (.var 3))) (.and (.not (.cmp .lss (.int 80) (.var 3))) (.and (.not (.cmp .lss (.var 3) (.int 0))) (.and (.not (.cmp .lss (.var 3) (.var 10))) (.and (.not (.cmp .lss (.var 6) (.int 1))) (.and (.not (.cmp .lss (.int 80) (.var 10))) (.cmp .eql (.var 6) (.var 10))))))))) (.not (.cmp .lss (.ar .add .i64 (.var 3) (.int 1)) (.var 10))))
theorem fact15 (ρ : Env) : E.B ρ f15 = true := by
  unfold f15
  simp only [sm_I_int, sm_I_mn, sm_I_mx, sm_I_add_u64, sm_I_sub_u64, sm_I_add_i64, sm_I_sub_i64, sm_I_mul_i64, sm_I_fn6, sm_I_fn7, sm_I_fn8, sm_B_bool, sm_B_eql, sm_B_lss, sm_B_not, sm_B_and, sm_B_imp, sm_B_iff]
  rintro ⟨p0, p1, p2, p3, p4, p5, p6, p7⟩
  try generalize E.I ρ (.fn 9 (.pr (.var 2) (.int 4))) = x0 at *
  try generalize E.I ρ (.var 3) = x1 at *
  try generalize E.I ρ (.var 10) = x2 at *
  try generalize E.I ρ (.var 6) = x3 at *
  obtain ⟨y0, e0, q0, h0⟩ := cs_i64 (x1 + 1)
  try simp only [e0] at *
  omega
noncomputable def f16 : E := (.imp (.and (.cmp .lss (.fn 1 (.pr (.var 2) (.fn 6 (.pr (.fn 8 (.pr (.var 3) (.int 4))) (.int 1))))) (.var 6)) (.and (.not (.cmp .lss (.int 80) (.fn 9 (.pr (.var 2) (.int 4))))) (.and (.not (.cmp .lss (.fn 9 (.pr (.var 2) (.int 4))) (.var 3))) (.and (.not (.cmp .lss (.int 80) (.var 3))) (.and (.not (.cmp .lss (.var 3) (.int 0))) (.and (.not (.cmp .lss (.var 3) (.var 10))) (.and (.not (.cmp .lss (.var 6) (.int 1))) (.and (.not (.cmp .lss (.int 80) (.var 10))) (.cmp .eql (.var 6) (.var 10)))))))))) (.cmp .lss (.fn 1 (.pr (.var 2) (.fn 6 (.pr (.fn 8 (.pr (.var 3) (.int 4))) (.int 1))))) (.var 10)))
theorem fact16 (ρ : Env) : E.B ρ f16 = true := by
  unfold f16
  simp only [sm_I_int, sm_I_mn, sm_I_mx, sm_I_add_u64, sm_I_sub_u64, sm_I_add_i64, sm_I_sub_i64, sm_I_mul_i64, sm_I_fn6, sm_I_fn7, sm_I_fn8, sm_B_bool, sm_B_eql, sm_B_lss, sm_B_not, sm_B_and, sm_B_imp, sm_B_iff]
  rintro ⟨p0, p1, p2, p3, p4, p5, p6, p7, p8⟩
  try generalize E.I ρ (.fn 1 (.pr (.var 2) (.fn 6 (.pr (.fn 8 (.pr (.var 3) (.int 4))) (.int 1))))) = x0 at *
  try generalize E.I ρ (.var 6) = x1 at *
  try generalize E.I ρ (.fn 9 (.pr (.var 2) (.int 4))) = x2 at *
  try generalize E.I ρ (.var 3) = x3 at *
  try generalize E.I ρ (.var 10) = x4 at *
  omega
noncomputable def f17 : E := (.imp (.and (.not (.cmp .lss (.int 80) (.fn 9 (.pr (.var 2) (.int 4))))) (.and (.not (.cmp .lss (.fn 9 (.pr (.var 2) (.int 4))) (.var 3))) (.and (.not (.cmp .lss (.int 80) (.var 3))) (.and (.not (.cmp .lss (.var 3) (.int 0))) (.and (.not (.cmp .lss (.var 3) (.var 10))) (.and (.not (.cmp .lss (.var 6) (.int 1))) (.and (.not (.cmp .lss (.int 80) (.var 10))) (.cmp .eql (.var 6) (.var 10))))))))) (.not (.cmp .lss (.int 2147483648) (.fn 6 (.pr (.var 6) (.int 1))))))
theorem fact17 (ρ : Env) : E.B ρ f17 = true := by
  unfold f17
  simp only [sm_I_int, sm_I_mn, sm_I_mx, sm_I_add_u64, sm_I_sub_u64, sm_I_add_i64, sm_I_sub_i64, sm_I_mul_i64, sm_I_fn6, sm_I_fn7, sm_I_fn8, sm_B_bool, sm_B_eql, sm_B_lss, sm_B_not, sm_B_and, sm_B_imp, sm_B_iff]
  rintro ⟨p0, p1, p2, p3, p4, p5, p6, p7⟩
  try generalize E.I ρ (.fn 9 (.pr (.var 2) (.int 4))) = x0 at *
  try generalize E.I ρ (.var 3) = x1 at *
  try generalize E.I ρ (.var 10) = x2 at *
  try generalize E.I ρ (.var 6) = x3 at *
  omega
noncomputable def f18 : E := (.imp (.and (.not (.cmp .lss (.var 7) (.int 0))) (.and (.fn 110 (.pr (.var 4) (.pr (.var 5) (.pr (.var 8) (.pr (.var 9) (.var 10)))))) (.and (.cmp .lss (.var 3) (.fn 9 (.pr (.var 2) (.int 4)))) (.and (.cmp .lss (.fn 1 (.pr (.var 2) (.fn 6 (.pr (.fn 8 (.pr (.var 3) (.int 4))) (.int 1))))) (.var 6)) (.and (.fn 1 (.pr (.var 5) (.fn 6 (.pr (.fn 8 (.pr (.fn 1 (.pr (.var 2) (.fn 6 (.pr (.fn 8 (.pr (.var 3) (.int 4))) (.int 1))))) (.int 2))) (.int 0))))) (.and (.cmp .lss (.fn 1 (.pr (.var 5) (.fn 6 (.pr (.fn 8 (.pr (.fn 1 (.pr (.var 2) (.fn 6 (.pr (.fn 8 (.pr (.var 3) (.int 4))) (.int 1))))) (.int 2))) (.int 1))))) (.int 0)) (.and (.not (.cmp .lss (.int 80) (.fn 9 (.pr (.var 2) (.int 4))))) (.and (.not (.cmp .lss (.fn 9 (.pr (.var 2) (.int 4))) (.var 3))) (.and (.not (.cmp .lss (.int 80) (.var 3))) (.and (.not (.cmp .lss (.var 3) (.int 0))) (.and (.not (.cmp .lss (.var 3) (.var 10))) (.and (.not (.cmp .lss (.var 6) (.int 1))) (.and (.not (.cmp .lss (.int 80) (.var 10))) (.cmp .eql (.var 6) (.var 10))))))))))))))) (.cmp .eql (.var 6) (.fn 9 (.pr (.var 5) (.int 2)))))
theorem fact18 (ρ : Env) : E.B ρ f18 = true := by
  unfold f18
  simp only [sm_I_int, sm_I_fn6, sm_I_fn7, sm_I_fn8, sm_B_bool, sm_B_eql, sm_B_lss, sm_B_not, sm_B_and, sm_B_imp, sm_I_add_i64, sm_I_sub_i64, d110, d33, d32, dop, dpl, dL34, dL35, dL2, dL3, dL23, dL10, dd_int, dd_bool, d100, d101, d103, d104, d36, d39, d0, d9, List.map_nil, List.map_cons, List.map_append, List.length_nil]
  rintro ⟨p0, p1, p2, p3, p4, p5, p6, p7, p8, p9, p10, p11, p12, p13⟩
  try generalize E.I ρ (.fn 1 (.pr (.var 2) (.fn 6 (.pr (.fn 8 (.pr (.var 3) (.int 4))) (.int 1))))) = z0 at *
  have g0 := rel_c0 p1
  have g1 := rel_c1 p1
  have g2 := rel_rows p1
  try simp only [sm_I_int] at *
  omega
noncomputable def f19 : E := (.imp (.and (.not (.cmp .lss (.int 80) (.fn 9 (.pr (.var 2) (.int 4))))) (.and (.not (.cmp .lss (.fn 9 (.pr (.var 2) (.int 4))) (.var 3))) (.and (.not (.cmp .lss (.int 80) (.var 3))) (.and (.not (.cmp .lss (.var 3) (.int 0))) (.and (.not (.cmp .lss (.var 3) (.var 10))) (.and (.not (.cmp .lss (.var 6) (.int 1))) (.and (.not (.cmp .lss (.int 80) (.var 10))) (.cmp .eql (.var 6) (.var 10))))))))) (.not (.cmp .lss (.ar .add .i64 (.var 3) (.int 1)) (.int 0))))
theorem fact19 (ρ : Env) : E.B ρ f19 = true := by
  unfold f19
  simp only [sm_I_int, sm_I_mn, sm_I_mx, sm_I_add_u64, sm_I_sub_u64, sm_I_add_i64, sm_I_sub_i64, sm_I_mul_i64, sm_I_fn6, sm_I_fn7, sm_I_fn8, sm_B_bool, sm_B_eql, sm_B_lss, sm_B_not, sm_B_and, sm_B_imp, sm_B_iff]
  rintro ⟨p0, p1, p2, p3, p4, p5, p6, p7⟩
  try generalize E.I ρ (.fn 9 (.pr (.var 2) (.int 4))) = x0 at *
  try generalize E.I ρ (.var 3) = x1 at *
  try generalize E.I ρ (.var 10) = x2 at *
  try generalize E.I ρ (.var 6) = x3 at *
  obtain ⟨y0, e0, q0, h0⟩ := cs_i64 (x1 + 1)
  try simp only [e0] at *
  omega
noncomputable def f20 : E := (.imp (.and (.cmp .lss (.var 3) (.fn 9 (.pr (.var 2) (.int 4)))) (.and (.not (.cmp .lss (.fn 1 (.pr (.var 2) (.fn 6 (.pr (.fn 8 (.pr (.var 3) (.int 4))) (.int 1))))) (.int 0))) (.and (.not (.cmp .lss (.fn 1 (.pr (.var 2) (.fn 6 (.pr (.fn 8 (.pr (.var 3) (.int 4))) (.int 1))))) (.var 6))) (.and (.not (.cmp .lss (.int 80) (.fn 9 (.pr (.var 2) (.int 4))))) (.and (.not (.cmp .lss (.fn 9 (.pr (.var 2) (.int 4))) (.var 3))) (.and (.not (.cmp .lss (.int 80) (.var 3))) (.and (.not (.cmp .lss (.var 3) (.int 0))) (.and (.not (.cmp .lss (.var 3) (.var 10))) (.and (.not (.cmp .lss (.var 6) (.int 1))) (.and (.not (.cmp .lss (.int 80) (.var 10))) (.and (.not (.cmp .lss (.var 7) (.int 0))) (.and (.cmp .eql (.var 6) (.var 10)) (.fn 110 (.pr (.var 4) (.pr (.var 5) (.pr (.var 8) (.pr (.var 9) (.var 10)))))))))))))))))) (.not (.fn 33 (.pr (.var 4) (.fn 1 (.pr (.var 2) (.fn 6 (.pr (.fn 8 (.pr (.var 3) (.int 4))) (.int 1)))))))))
theorem fact20 (ρ : Env) : E.B ρ f20 = true := by
  unfold f20
  simp only [sm_I_int, sm_I_fn6, sm_I_fn7, sm_I_fn8, sm_B_bool, sm_B_eql, sm_B_lss, sm_B_not, sm_B_and, sm_B_imp, sm_I_add_i64, sm_I_sub_i64, d110, d33, d32, dop, dpl, dL34, dL35, dL2, dL3, dL23, dL10, dd_int, dd_bool, d100, d101, d103, d104, d36, d39, d0, d9, List.map_nil, List.map_cons, List.map_append, List.length_nil]
  rintro ⟨p0, p1, p2, p3, p4, p5, p6, p7, p8, p9, p10, p11, p12⟩
  try generalize E.I ρ (.fn 1 (.pr (.var 2) (.fn 6 (.pr (.fn 8 (.pr (.var 3) (.int 4))) (.int 1))))) = z0 at *
  rcases rel_look p12 z0 with ⟨hn, hh⟩ | ⟨v, hn, h1, h2, h3, h4, h5, h6⟩
  all_goals simp only [hn, Option.isSome_none, Option.isSome_some, Option.getD_none, Option.getD_some, U.toI] at *
  all_goals first
    | omega
    | (exfalso; exact hh (by omega) (by omega) (by assumption))
    | (simp_all; done)
    | (simp_all; omega)
    | (intro hq; simp_all; omega)
noncomputable def f21 : E := (.imp (.and (.cmp .lss (.var 3) (.fn 9 (.pr (.var 2) (.int 4)))) (.and (.not (.cmp .lss (.fn 1 (.pr (.var 2) (.fn 6 (.pr (.fn 8 (.pr (.var 3) (.int 4))) (.int 1))))) (.int 0))) (.and (.cmp .lss (.fn 1 (.pr (.var 2) (.fn 6 (.pr (.fn 8 (.pr (.var 3) (.int 4))) (.int 1))))) (.var 6)) (.and (.not (.fn 1 (.pr (.var 5) (.fn 6 (.pr (.fn 8 (.pr (.fn 1 (.pr (.var 2) (.fn 6 (.pr (.fn 8 (.pr (.var 3) (.int 4))) (.int 1))))) (.int 2))) (.int 0)))))) (.and (.not (.cmp .lss (.int 80) (.fn 9 (.pr (.var 2) (.int 4))))) (.and (.not (.cmp .lss (.fn 9 (.pr (.var 2) (.int 4))) (.var 3))) (.and (.not (.cmp .lss (.int 80) (.var 3))) (.and (.not (.cmp .lss (.var 3) (.int 0))) (.and (.not (.cmp .lss (.var 3) (.var 10))) (.and (.not (.cmp .lss (.var 6) (.int 1))) (.and (.not (.cmp .lss (.int 80) (.var 10))) (.and (.not (.cmp .lss (.var 7) (.int 0))) (.and (.cmp .eql (.var 6) (.var 10)) (.fn 110 (.pr (.var 4) (.pr (.var 5) (.pr (.var 8) (.pr (.var 9) (.var 10))))))))))))))))))) (.not (.fn 33 (.pr (.var 4) (.fn 1 (.pr (.var 2) (.fn 6 (.pr (.fn 8 (.pr (.var 3) (.int 4))) (.int 1)))))))))
theorem fact21 (ρ : Env) : E.B ρ f21 = true := by
  unfold f21
  simp only [sm_I_int, sm_I_fn6, sm_I_fn7, sm_I_fn8, sm_B_bool, sm_B_eql, sm_B_lss, sm_B_not, sm_B_and, sm_B_imp, sm_I_add_i64, sm_I_sub_i64, d110, d33, d32, dop, dpl, dL34, dL35, dL2, dL3, dL23, dL10, dd_int, dd_bool, d100, d101, d103, d104, d36, d39, d0, d9, List.map_nil, List.map_cons, List.map_append, List.length_nil]
  rintro ⟨p0, p1, p2, p3, p4, p5, p6, p7, p8, p9, p10, p11, p12, p13⟩
  try generalize E.I ρ (.fn 1 (.pr (.var 2) (.fn 6 (.pr (.fn 8 (.pr (.var 3) (.int 4))) (.int 1))))) = z0 at *
  rcases rel_look p13 z0 with ⟨hn, hh⟩ | ⟨v, hn, h1, h2, h3, h4, h5, h6⟩
  all_goals simp only [hn, Option.isSome_none, Option.isSome_some, Option.getD_none, Option.getD_some, U.toI] at *
  all_goals first
    | omega
    | (exfalso; exact hh (by omega) (by omega) (by assumption))
    | (simp_all; done)
    | (simp_all; omega)
    | (intro hq; simp_all; omega)
noncomputable def f22 : E := (.imp (.and (.not (.cmp .lss (.int 80) (.fn 9 (.pr (.var 2) (.int 4))))) (.and (.not (.cmp .lss (.fn 9 (.pr (.var 2) (.int 4))) (.var 3))) (.and (.not (.cmp .lss (.int 80) (.var 3))) (.and (.not (.cmp .lss (.var 3) (.int 0))) (.and (.not (.cmp .lss (.var 3) (.var 10))) (.and (.not (.cmp .lss (.var 6) (.int 1))) (.and (.not (.cmp .lss (.int 80) (.var 10))) (.cmp .eql (.var 6) (.var 10))))))))) (.cmp .eql (.var 10) (.ar .sub .i64 (.fn 6 (.pr (.var 6) (.int 1))) (.int 1))))
theorem fact22 (ρ : Env) : E.B ρ f22 = true := by
  unfold f22
  simp only [sm_I_int, sm_I_mn, sm_I_mx, sm_I_add_u64, sm_I_sub_u64, sm_I_add_i64, sm_I_sub_i64, sm_I_mul_i64, sm_I_fn6, sm_I_fn7, sm_I_fn8, sm_B_bool, sm_B_eql, sm_B_lss, sm_B_not, sm_B_and, sm_B_imp, sm_B_iff]
  rintro ⟨p0, p1, p2, p3, p4, p5, p6, p7⟩
  try generalize E.I ρ (.fn 9 (.pr (.var 2) (.int 4))) = x0 at *
  try generalize E.I ρ (.var 3) = x1 at *
  try generalize E.I ρ (.var 10) = x2 at *
  try generalize E.I ρ (.var 6) = x3 at *
  obtain ⟨y0, e0, q0, h0⟩ := cs_i64 ((x3 + 1) - 1)
  try simp only [e0] at *
  omega
noncomputable def f23 : E := (.imp (.and (.cmp .lss (.var 3) (.fn 9 (.pr (.var 2) (.int 4)))) (.and (.cmp .lss (.fn 1 (.pr (.var 2) (.fn 6 (.pr (.fn 8 (.pr (.var 3) (.int 4))) (.int 1))))) (.var 6)) (.and (.fn 1 (.pr (.var 5) (.fn 6 (.pr (.fn 8 (.pr (.fn 1 (.pr (.var 2) (.fn 6 (.pr (.fn 8 (.pr (.var 3) (.int 4))) (.int 1))))) (.int 2))) (.int 0))))) (.and (.cmp .lss (.fn 1 (.pr (.var 5) (.fn 6 (.pr (.fn 8 (.pr (.fn 1 (.pr (.var 2) (.fn 6 (.pr (.fn 8 (.pr (.var 3) (.int 4))) (.int 1))))) (.int 2))) (.int 1))))) (.int 0)) (.and (.cmp .eql (.var 11) (.fn 100 (.pr (.var 5) (.int 0)))) (.and (.not (.cmp .lss (.var 12) (.int 0))) (.and (.not (.cmp .lss (.var 12) (.var 6))) (.and (.not (.cmp .lss (.var 11) (.int 0))) (.and (.not (.cmp .lss (.var 13) (.int 0))) (.and (.not (.cmp .lss (.var 13) (.var 6))) (.and (.not (.cmp .lss (.int 80) (.fn 9 (.pr (.var 2) (.int 4))))) (.and (.not (.cmp .lss (.fn 9 (.pr (.var 2) (.int 4))) (.var 3))) (.and (.not (.cmp .lss (.int 80) (.var 3))) (.and (.not (.cmp .lss (.var 3) (.int 0))) (.and (.not (.cmp .lss (.var 3) (.var 10))) (.and (.not (.cmp .lss (.var 6) (.int 1))) (.and (.not (.cmp .lss (.int 80) (.var 10))) (.and (.not (.cmp .lss (.var 7) (.int 0))) (.and (.cmp .eql (.var 6) (.var 10)) (.fn 110 (.pr (.var 4) (.pr (.var 5) (.pr (.var 8) (.pr (.var 9) (.var 10))))))))))))))))))))))))) (.cmp .lss (.var 11) (.var 6)))
theorem fact23 (ρ : Env) : E.B ρ f23 = true := by
  unfold f23
  simp only [sm_I_int, sm_I_fn6, sm_I_fn7, sm_I_fn8, sm_B_bool, sm_B_eql, sm_B_lss, sm_B_not, sm_B_and, sm_B_imp, sm_I_add_i64, sm_I_sub_i64, d110, d33, d32, dop, dpl, dL34, dL35, dL2, dL3, dL23, dL10, dd_int, dd_bool, d100, d101, d103, d104, d36, d39, d0, d9, List.map_nil, List.map_cons, List.map_append, List.length_nil]
  rintro ⟨p0, p1, p2, p3, p4, p5, p6, p7, p8, p9, p10, p11, p12, p13, p14, p15, p16, p17, p18, p19⟩
  try generalize E.I ρ (.fn 1 (.pr (.var 2) (.fn 6 (.pr (.fn 8 (.pr (.var 3) (.int 4))) (.int 1))))) = z0 at *
  have g0 := rel_c0 p19
  have g1 := rel_c1 p19
  have g2 := rel_rows p19
  try simp only [sm_I_int] at *
  omega
noncomputable def f24 : E := (.imp (.and (.cmp .lss (.var 3) (.fn 9 (.pr (.var 2) (.int 4)))) (.and (.cmp .lss (.fn 1 (.pr (.var 2) (.fn 6 (.pr (.fn 8 (.pr (.var 3) (.int 4))) (.int 1))))) (.var 6)) (.and (.fn 1 (.pr (.var 5) (.fn 6 (.pr (.fn 8 (.pr (.fn 1 (.pr (.var 2) (.fn 6 (.pr (.fn 8 (.pr (.var 3) (.int 4))) (.int 1))))) (.int 2))) (.int 0))))) (.and (.cmp .lss (.fn 1 (.pr (.var 5) (.fn 6 (.pr (.fn 8 (.pr (.fn 1 (.pr (.var 2) (.fn 6 (.pr (.fn 8 (.pr (.var 3) (.int 4))) (.int 1))))) (.int 2))) (.int 1))))) (.int 0)) (.and (.cmp .eql (.var 11) (.fn 100 (.pr (.var 5) (.int 1)))) (.and (.not (.cmp .lss (.var 12) (.int 0))) (.and (.not (.cmp .lss (.var 12) (.var 6))) (.and (.not (.cmp .lss (.var 11) (.int 0))) (.and (.not (.cmp .lss (.var 13) (.int 0))) (.and (.not (.cmp .lss (.var 13) (.var 6))) (.and (.not (.cmp .lss (.int 80) (.fn 9 (.pr (.var 2) (.int 4))))) (.and (.not (.cmp .lss (.fn 9 (.pr (.var 2) (.int 4))) (.var 3))) (.and (.not (.cmp .lss (.int 80) (.var 3))) (.and (.not (.cmp .lss (.var 3) (.int 0))) (.and (.not (.cmp .lss (.var 3) (.var 10))) (.and (.not (.cmp .lss (.var 6) (.int 1))) (.and (.not (.cmp .lss (.int 80) (.var 10))) (.and (.not (.cmp .lss (.var 7) (.int 0))) (.and (.cmp .eql (.var 6) (.var 10)) (.fn 110 (.pr (.var 4) (.pr (.var 5) (.pr (.var 8) (.pr (.var 9) (.var 10))))))))))))))))))))))))) (.cmp .lss (.var 11) (.var 6)))
theorem fact24 (ρ : Env) : E.B ρ f24 = true := by
  unfold f24
  simp only [sm_I_int, sm_I_fn6, sm_I_fn7, sm_I_fn8, sm_B_bool, sm_B_eql, sm_B_lss, sm_B_not, sm_B_and, sm_B_imp, sm_I_add_i64, sm_I_sub_i64, d110, d33, d32, dop, dpl, dL34, dL35, dL2, dL3, dL23, dL10, dd_int, dd_bool, d100, d101, d103, d104, d36, d39, d0, d9, List.map_nil, List.map_cons, List.map_append, List.length_nil]
  rintro ⟨p0, p1, p2, p3, p4, p5, p6, p7, p8, p9, p10, p11, p12, p13, p14, p15, p16, p17, p18, p19⟩
  try generalize E.I ρ (.fn 1 (.pr (.var 2) (.fn 6 (.pr (.fn 8 (.pr (.var 3) (.int 4))) (.int 1))))) = z0 at *
  have g0 := rel_c0 p19
  have g1 := rel_c1 p19
  have g2 := rel_rows p19
  try simp only [sm_I_int] at *
  omega
noncomputable def f25 : E := (.imp (.and (.cmp .lss (.var 3) (.fn 9 (.pr (.var 2) (.int 4)))) (.and (.not (.cmp .lss (.int 80) (.fn 9 (.pr (.var 2) (.int 4))))) (.and (.not (.cmp .lss (.fn 9 (.pr (.var 2) (.int 4))) (.var 3))) (.and (.not (.cmp .lss (.int 80) (.var 3))) (.and (.not (.cmp .lss (.var 3) (.int 0))) (.and (.not (.cmp .lss (.var 3) (.var 10))) (.and (.not (.cmp .lss (.var 6) (.int 1))) (.and (.not (.cmp .lss (.int 80) (.var 10))) (.cmp .eql (.var 6) (.var 10)))))))))) (.not (.cmp .lss (.int 80) (.ar .add .i64 (.var 3) (.int 1)))))
theorem fact25 (ρ : Env) : E.B ρ f25 = true := by
  unfold f25
  simp only [sm_I_int, sm_I_mn, sm_I_mx, sm_I_add_u64, sm_I_sub_u64, sm_I_add_i64, sm_I_sub_i64, sm_I_mul_i64, sm_I_fn6, sm_I_fn7, sm_I_fn8, sm_B_bool, sm_B_eql, sm_B_lss, sm_B_not, sm_B_and, sm_B_imp, sm_B_iff]
  rintro ⟨p0, p1, p2, p3, p4, p5, p6, p7, p8⟩
  try generalize E.I ρ (.var 3) = x0 at *
  try generalize E.I ρ (.fn 9 (.pr (.var 2) (.int 4))) = x1 at *
  try generalize E.I ρ (.var 10) = x2 at *
  try generalize E.I ρ (.var 6) = x3 at *
  obtain ⟨y0, e0, q0, h0⟩ := cs_i64 (x0 + 1)
  try simp only [e0] at *
  omega
noncomputable def f26 : E := (.imp (.and (.not (.cmp .lss (.int 80) (.fn 9 (.pr (.var 2) (.int 4))))) (.and (.not (.cmp .lss (.fn 9 (.pr (.var 2) (.int 4))) (.var 3))) (.and (.not (.cmp .lss (.int 80) (.var 3))) (.and (.not (.cmp .lss (.var 3) (.int 0))) (.and (.not (.cmp .lss (.var 3) (.var 10))) (.and (.not (.cmp .lss (.var 6) (.int 1))) (.and (.not (.cmp .lss (.int 80) (.var 10))) (.cmp .eql (.var 6) (.var 10))))))))) (.not (.cmp .eql (.var 6) (.int 10000))))
theorem fact26 (ρ : Env) : E.B ρ f26 = true := by
  unfold f26
  simp only [sm_I_int, sm_I_mn, sm_I_mx, sm_I_add_u64, sm_I_sub_u64, sm_I_add_i64, sm_I_sub_i64, sm_I_mul_i64, sm_I_fn6, sm_I_fn7, sm_I_fn8, sm_B_bool, sm_B_eql, sm_B_lss, sm_B_not, sm_B_and, sm_B_imp, sm_B_iff]
  rintro ⟨p0, p1, p2, p3, p4, p5, p6, p7⟩
  try generalize E.I ρ (.fn 9 (.pr (.var 2) (.int 4))) = x0 at *
  try generalize E.I ρ (.var 3) = x1 at *
  try generalize E.I ρ (.var 10) = x2 at *
  try generalize E.I ρ (.var 6) = x3 at *
  omega
noncomputable def f27 : E := (.imp (.and (.cmp .lss (.var 3) (.fn 9 (.pr (.var 2) (.int 4)))) (.and (.not (.cmp .lss (.int 80) (.fn 9 (.pr (.var 2) (.int 4))))) (.and (.not (.cmp .lss (.fn 9 (.pr (.var 2) (.int 4))) (.var 3))) (.and (.not (.cmp .lss (.int 80) (.var 3))) (.and (.not (.cmp .lss (.var 3) (.int 0))) (.and (.not (.cmp .lss (.var 3) (.var 10))) (.and (.not (.cmp .lss (.var 6) (.int 1))) (.and (.not (.cmp .lss (.int 80) (.var 10))) (.cmp .eql (.var 6) (.var 10)))))))))) (.not (.cmp .lss (.fn 9 (.pr (.var 2) (.int 4))) (.ar .add .i64 (.var 3) (.int 1)))))
theorem fact27 (ρ : Env) : E.B ρ f27 = true := by
  unfold f27
  simp only [sm_I_int, sm_I_mn, sm_I_mx, sm_I_add_u64, sm_I_sub_u64, sm_I_add_i64, sm_I_sub_i64, sm_I_mul_i64, sm_I_fn6, sm_I_fn7, sm_I_fn8, sm_B_bool, sm_B_eql, sm_B_lss, sm_B_not, sm_B_and, sm_B_imp, sm_B_iff]
  rintro ⟨p0, p1, p2, p3, p4, p5, p6, p7, p8⟩
  try generalize E.I ρ (.var 3) = x0 at *
  try generalize E.I ρ (.fn 9 (.pr (.var 2) (.int 4))) = x1 at *
  try generalize E.I ρ (.var 10) = x2 at *
  try generalize E.I ρ (.var 6) = x3 at *
  obtain ⟨y0, e0, q0, h0⟩ := cs_i64 (x0 + 1)
  try simp only [e0] at *
  omega
noncomputable def f28 : E := (.imp (.and (.cmp .lss (.var 3) (.fn 9 (.pr (.var 2) (.int 4)))) (.and (.not (.cmp .lss (.fn 1 (.pr (.var 2) (.fn 6 (.pr (.fn 8 (.pr (.var 3) (.int 4))) (.int 1))))) (.int 0))) (.and (.cmp .lss (.fn 1 (.pr (.var 2) (.fn 6 (.pr (.fn 8 (.pr (.var 3) (.int 4))) (.int 1))))) (.var 6)) (.and (.fn 1 (.pr (.var 5) (.fn 6 (.pr (.fn 8 (.pr (.fn 1 (.pr (.var 2) (.fn 6 (.pr (.fn 8 (.pr (.var 3) (.int 4))) (.int 1))))) (.int 2))) (.int 0))))) (.and (.not (.cmp .lss (.fn 1 (.pr (.var 5) (.fn 6 (.pr (.fn 8 (.pr (.fn 1 (.pr (.var 2) (.fn 6 (.pr (.fn 8 (.pr (.var 3) (.int 4))) (.int 1))))) (.int 2))) (.int 1))))) (.int 0))) (.and (.not (.cmp .lss (.int 80) (.fn 9 (.pr (.var 2) (.int 4))))) (.and (.not (.cmp .lss (.fn 9 (.pr (.var 2) (.int 4))) (.var 3))) (.and (.not (.cmp .lss (.int 80) (.var 3))) (.and (.not (.cmp .lss (.var 3) (.int 0))) (.and (.not (.cmp .lss (.var 3) (.var 10))) (.and (.not (.cmp .lss (.var 6) (.int 1))) (.and (.not (.cmp .lss (.int 80) (.var 10))) (.and (.not (.cmp .lss (.var 7) (.int 0))) (.and (.cmp .eql (.var 6) (.var 10)) (.fn 110 (.pr (.var 4) (.pr (.var 5) (.pr (.var 8) (.pr (.var 9) (.var 10)))))))))))))))))))) (.fn 33 (.pr (.var 4) (.fn 1 (.pr (.var 2) (.fn 6 (.pr (.fn 8 (.pr (.var 3) (.int 4))) (.int 1))))))))
theorem fact28 (ρ : Env) : E.B ρ f28 = true := by
  unfold f28
  simp only [sm_I_int, sm_I_fn6, sm_I_fn7, sm_I_fn8, sm_B_bool, sm_B_eql, sm_B_lss, sm_B_not, sm_B_and, sm_B_imp, sm_I_add_i64, sm_I_sub_i64, d110, d33, d32, dop, dpl, dL34, dL35, dL2, dL3, dL23, dL10, dd_int, dd_bool, d100, d101, d103, d104, d36, d39, d0, d9, List.map_nil, List.map_cons, List.map_append, List.length_nil]
  rintro ⟨p0, p1, p2, p3, p4, p5, p6, p7, p8, p9, p10, p11, p12, p13, p14⟩
  try generalize E.I ρ (.fn 1 (.pr (.var 2) (.fn 6 (.pr (.fn 8 (.pr (.var 3) (.int 4))) (.int 1))))) = z0 at *
  rcases rel_look p14 z0 with ⟨hn, hh⟩ | ⟨v, hn, h1, h2, h3, h4, h5, h6⟩
  all_goals simp only [hn, Option.isSome_none, Option.isSome_some, Option.getD_none, Option.getD_some, U.toI] at *
  all_goals first
    | omega
    | (exfalso; exact hh (by omega) (by omega) (by assumption))
    | (simp_all; done)
    | (simp_all; omega)
    | (intro hq; simp_all; omega)
noncomputable def f29 : E := (.imp (.and (.cmp .lss (.var 3) (.fn 9 (.pr (.var 2) (.int 4)))) (.and (.not (.cmp .lss (.var 11) (.int 0))) (.and (.not (.cmp .lss (.var 11) (.var 6))) (.and (.not (.cmp .lss (.var 12) (.int 0))) (.and (.not (.cmp .lss (.var 12) (.fn 6 (.pr (.var 6) (.int 1))))) (.and (.not (.cmp .lss (.int 80) (.fn 9 (.pr (.var 2) (.int 4))))) (.and (.not (.cmp .lss (.fn 9 (.pr (.var 2) (.int 4))) (.var 3))) (.and (.not (.cmp .lss (.int 80) (.var 3))) (.and (.not (.cmp .lss (.var 3) (.int 0))) (.and (.not (.cmp .lss (.var 3) (.var 10))) (.and (.not (.cmp .lss (.var 6) (.int 1))) (.and (.not (.cmp .lss (.int 80) (.var 10))) (.and (.not (.cmp .lss (.var 7) (.int 0))) (.and (.cmp .eql (.var 6) (.var 10)) (.fn 110 (.pr (.var 4) (.pr (.var 5) (.pr (.var 8) (.pr (.var 9) (.var 10)))))))))))))))))))) (.fn 110 (.pr (.fn 34 (.pr (.var 4) (.pr (.var 10) (.int (-1))))) (.pr (.fn 3 (.pr (.var 5) (.fn 23 (.pr (.bool true) (.fn 23 (.pr (.int (-1)) (.fn 10 (.int 0)))))))) (.pr (.var 8) (.pr (.var 9) (.ar .add .i64 (.var 10) (.int 1))))))))
theorem fact29 (ρ : Env) : E.B ρ f29 = true := by
  unfold f29
  simp only [sm_I_int, sm_I_fn6, sm_I_fn7, sm_I_fn8, sm_B_bool, sm_B_eql, sm_B_lss, sm_B_not, sm_B_and, sm_B_imp, sm_I_add_i64, sm_I_sub_i64, d110, d33, d32, dop, dpl, dL34, dL35, dL2, dL3, dL23, dL10, dd_int, dd_bool, d100, d101, d103, d104, d36, d39, d0, d9, List.map_nil, List.map_cons, List.map_append, List.length_nil]
  rintro ⟨p0, p1, p2, p3, p4, p5, p6, p7, p8, p9, p10, p11, p12, p13, p14⟩
  have hx := cs_i64 (E.I ρ (.var 10) + 1)
  obtain ⟨y, e, _, hy⟩ := hx
  have hb := rel_rows p14
  rw [e, hy (by omega) (by omega)]
  exact rel_open p14
noncomputable def f30 : E := (.imp (.and (.cmp .lss (.var 3) (.fn 9 (.pr (.var 2) (.int 4)))) (.and (.cmp .lss (.fn 1 (.pr (.var 2) (.fn 6 (.pr (.fn 8 (.pr (.var 3) (.int 4))) (.int 1))))) (.int 0)) (.and (.not (.cmp .lss (.int 80) (.fn 9 (.pr (.var 2) (.int 4))))) (.and (.not (.cmp .lss (.fn 9 (.pr (.var 2) (.int 4))) (.var 3))) (.and (.not (.cmp .lss (.int 80) (.var 3))) (.and (.not (.cmp .lss (.var 3) (.int 0))) (.and (.not (.cmp .lss (.var 3) (.var 10))) (.and (.not (.cmp .lss (.var 6) (.int 1))) (.and (.not (.cmp .lss (.int 80) (.var 10))) (.and (.not (.cmp .lss (.var 7) (.int 0))) (.and (.cmp .eql (.var 6) (.var 10)) (.fn 110 (.pr (.var 4) (.pr (.var 5) (.pr (.var 8) (.pr (.var 9) (.var 10))))))))))))))))) (.not (.fn 33 (.pr (.var 4) (.fn 1 (.pr (.var 2) (.fn 6 (.pr (.fn 8 (.pr (.var 3) (.int 4))) (.int 1)))))))))
theorem fact30 (ρ : Env) : E.B ρ f30 = true := by
  unfold f30
  simp only [sm_I_int, sm_I_fn6, sm_I_fn7, sm_I_fn8, sm_B_bool, sm_B_eql, sm_B_lss, sm_B_not, sm_B_and, sm_B_imp, sm_I_add_i64, sm_I_sub_i64, d110, d33, d32, dop, dpl, dL34, dL35, dL2, dL3, dL23, dL10, dd_int, dd_bool, d100, d101, d103, d104, d36, d39, d0, d9, List.map_nil, List.map_cons, List.map_append, List.length_nil]
  rintro ⟨p0, p1, p2, p3, p4, p5, p6, p7, p8, p9, p10, p11⟩
  try generalize E.I ρ (.fn 1 (.pr (.var 2) (.fn 6 (.pr (.fn 8 (.pr (.var 3) (.int 4))) (.int 1))))) = z0 at *
  rcases rel_look p11 z0 with ⟨hn, hh⟩ | ⟨v, hn, h1, h2, h3, h4, h5, h6⟩
  all_goals simp only [hn, Option.isSome_none, Option.isSome_some, Option.getD_none, Option.getD_some, U.toI] at *
  all_goals first
    | omega
    | (exfalso; exact hh (by omega) (by omega) (by assumption))
    | (simp_all; done)
    | (simp_all; omega)
    | (intro hq; simp_all; omega)
noncomputable def f31 : E := (.imp (.and (.not (.cmp .lss (.int 80) (.fn 9 (.pr (.var 2) (.int 4))))) (.and (.not (.cmp .lss (.fn 9 (.pr (.var 2) (.int 4))) (.var 3))) (.and (.not (.cmp .lss (.int 80) (.var 3))) (.and (.not (.cmp .lss (.var 3) (.int 0))) (.and (.not (.cmp .lss (.var 3) (.var 10))) (.and (.not (.cmp .lss (.var 6) (.int 1))) (.and (.not (.cmp .lss (.int 80) (.var 10))) (.cmp .eql (.var 6) (.var 10))))))))) (.cmp .lss (.fn 7 (.pr (.fn 9 (.pr (.var 2) (.int 4))) (.ar .add .i64 (.var 3) (.int 1)))) (.fn 7 (.pr (.fn 9 (.pr (.var 2) (.int 4))) (.var 3)))))
theorem fact31 (ρ : Env) : E.B ρ f31 = true := by
  unfold f31
  simp only [sm_I_int, sm_I_mn, sm_I_mx, sm_I_add_u64, sm_I_sub_u64, sm_I_add_i64, sm_I_sub_i64, sm_I_mul_i64, sm_I_fn6, sm_I_fn7, sm_I_fn8, sm_B_bool, sm_B_eql, sm_B_lss, sm_B_not, sm_B_and, sm_B_imp, sm_B_iff]
  rintro ⟨p0, p1, p2, p3, p4, p5, p6, p7⟩
  try generalize E.I ρ (.fn 9 (.pr (.var 2) (.int 4))) = x0 at *
  try generalize E.I ρ (.var 3) = x1 at *
  try generalize E.I ρ (.var 10) = x2 at *
  try generalize E.I ρ (.var 6) = x3 at *
  obtain ⟨y0, e0, q0, h0⟩ := cs_i64 (x1 + 1)
  try simp only [e0] at *
  omega
noncomputable def f32 : E := (.imp (.and (.cmp .lss (.var 3) (.fn 9 (.pr (.var 2) (.int 4)))) (.and (.not (.cmp .lss (.fn 1 (.pr (.var 2) (.fn 6 (.pr (.fn 8 (.pr (.var 3) (.int 4))) (.int 1))))) (.int 0))) (.and (.cmp .lss (.fn 1 (.pr (.var 2) (.fn 6 (.pr (.fn 8 (.pr (.var 3) (.int 4))) (.int 1))))) (.var 6)) (.and (.fn 1 (.pr (.var 5) (.fn 6 (.pr (.fn 8 (.pr (.fn 1 (.pr (.var 2) (.fn 6 (.pr (.fn 8 (.pr (.var 3) (.int 4))) (.int 1))))) (.int 2))) (.int 0))))) (.and (.not (.cmp .lss (.fn 1 (.pr (.var 5) (.fn 6 (.pr (.fn 8 (.pr (.fn 1 (.pr (.var 2) (.fn 6 (.pr (.fn 8 (.pr (.var 3) (.int 4))) (.int 1))))) (.int 2))) (.int 1))))) (.int 0))) (.and (.not (.cmp .lss (.int 80) (.fn 9 (.pr (.var 2) (.int 4))))) (.and (.not (.cmp .lss (.fn 9 (.pr (.var 2) (.int 4))) (.var 3))) (.and (.not (.cmp .lss (.int 80) (.var 3))) (.and (.not (.cmp .lss (.var 3) (.int 0))) (.and (.not (.cmp .lss (.var 3) (.var 10))) (.and (.not (.cmp .lss (.var 6) (.int 1))) (.and (.not (.cmp .lss (.int 80) (.var 10))) (.and (.not (.cmp .lss (.var 7) (.int 0))) (.and (.cmp .eql (.var 6) (.var 10)) (.fn 110 (.pr (.var 4) (.pr (.var 5) (.pr (.var 8) (.pr (.var 9) (.var 10)))))))))))))))))))) (.not (.cmp .eql (.fn 32 (.pr (.var 4) (.pr (.fn 1 (.pr (.var 2) (.fn 6 (.pr (.fn 8 (.pr (.var 3) (.int 4))) (.int 1))))) (.int 0)))) (.int (-1)))))
theorem fact32 (ρ : Env) : E.B ρ f32 = true := by
  unfold f32
  simp only [sm_I_int, sm_I_fn6, sm_I_fn7, sm_I_fn8, sm_B_bool, sm_B_eql, sm_B_lss, sm_B_not, sm_B_and, sm_B_imp, sm_I_add_i64, sm_I_sub_i64, d110, d33, d32, dop, dpl, dL34, dL35, dL2, dL3, dL23, dL10, dd_int, dd_bool, d100, d101, d103, d104, d36, d39, d0, d9, List.map_nil, List.map_cons, List.map_append, List.length_nil]
  rintro ⟨p0, p1, p2, p3, p4, p5, p6, p7, p8, p9, p10, p11, p12, p13, p14⟩
  try generalize E.I ρ (.fn 1 (.pr (.var 2) (.fn 6 (.pr (.fn 8 (.pr (.var 3) (.int 4))) (.int 1))))) = z0 at *
  rcases rel_look p14 z0 with ⟨hn, hh⟩ | ⟨v, hn, h1, h2, h3, h4, h5, h6⟩
  all_goals simp only [hn, Option.isSome_none, Option.isSome_some, Option.getD_none, Option.getD_some, U.toI] at *
  all_goals first
    | omega
    | (exfalso; exact hh (by omega) (by omega) (by assumption))
    | (simp_all; done)
    | (simp_all; omega)
    | (intro hq; simp_all; omega)
noncomputable def f33 : E := (.imp (.and (.not (.cmp .lss (.int 80) (.fn 9 (.pr (.var 2) (.int 4))))) (.and (.not (.cmp .lss (.fn 9 (.pr (.var 2) (.int 4))) (.var 3))) (.and (.not (.cmp .lss (.int 80) (.var 3))) (.and (.not (.cmp .lss (.var 3) (.int 0))) (.and (.not (.cmp .lss (.var 3) (.var 10))) (.and (.not (.cmp .lss (.var 6) (.int 1))) (.and (.not (.cmp .lss (.int 80) (.var 10))) (.cmp .eql (.var 6) (.var 10))))))))) (.cmp .eql (.fn 6 (.pr (.var 6) (.int 1))) (.ar .add .i64 (.var 10) (.int 1))))
theorem fact33 (ρ : Env) : E.B ρ f33 = true := by
  unfold f33
  simp only [sm_I_int, sm_I_mn, sm_I_mx, sm_I_add_u64, sm_I_sub_u64, sm_I_add_i64, sm_I_sub_i64, sm_I_mul_i64, sm_I_fn6, sm_I_fn7, sm_I_fn8, sm_B_bool, sm_B_eql, sm_B_lss, sm_B_not, sm_B_and, sm_B_imp, sm_B_iff]
  rintro ⟨p0, p1, p2, p3, p4, p5, p6, p7⟩
  try generalize E.I ρ (.fn 9 (.pr (.var 2) (.int 4))) = x0 at *
  try generalize E.I ρ (.var 3) = x1 at *
  try generalize E.I ρ (.var 10) = x2 at *
  try generalize E.I ρ (.var 6) = x3 at *
  obtain ⟨y0, e0, q0, h0⟩ := cs_i64 (x2 + 1)
  try simp only [e0] at *
  omega
noncomputable def f34 : E := (.imp (.and (.cmp .lss (.var 3) (.fn 9 (.pr (.var 2) (.int 4)))) (.and (.not (.cmp .lss (.int 80) (.fn 9 (.pr (.var 2) (.int 4))))) (.and (.not (.cmp .lss (.fn 9 (.pr (.var 2) (.int 4))) (.var 3))) (.and (.not (.cmp .lss (.int 80) (.var 3))) (.and (.not (.cmp .lss (.var 3) (.int 0))) (.and (.not (.cmp .lss (.var 3) (.var 10))) (.and (.not (.cmp .lss (.var 6) (.int 1))) (.and (.not (.cmp .lss (.int 80) (.var 10))) (.cmp .eql (.var 6) (.var 10)))))))))) (.not (.cmp .lss (.fn 7 (.pr (.fn 9 (.pr (.var 2) (.int 4))) (.ar .add .i64 (.var 3) (.int 1)))) (.int 0))))
theorem fact34 (ρ : Env) : E.B ρ f34 = true := by
  unfold f34
  simp only [sm_I_int, sm_I_mn, sm_I_mx, sm_I_add_u64, sm_I_sub_u64, sm_I_add_i64, sm_I_sub_i64, sm_I_mul_i64, sm_I_fn6, sm_I_fn7, sm_I_fn8, sm_B_bool, sm_B_eql, sm_B_lss, sm_B_not, sm_B_and, sm_B_imp, sm_B_iff]
  rintro ⟨p0, p1, p2, p3, p4, p5, p6, p7, p8⟩
  try generalize E.I ρ (.var 3) = x0 at *
  try generalize E.I ρ (.fn 9 (.pr (.var 2) (.int 4))) = x1 at *
  try generalize E.I ρ (.var 10) = x2 at *
  try generalize E.I ρ (.var 6) = x3 at *
  obtain ⟨y0, e0, q0, h0⟩ := cs_i64 (x0 + 1)
  try simp only [e0] at *
  omega
noncomputable def f35 : E := (.imp (.and (.not (.cmp .lss (.var 7) (.int 0))) (.and (.fn 110 (.pr (.var 4) (.pr (.var 5) (.pr (.var 8) (.pr (.var 9) (.var 10)))))) (.and (.cmp .lss (.var 3) (.fn 9 (.pr (.var 2) (.int 4)))) (.and (.not (.cmp .lss (.var 11) (.int 0))) (.and (.not (.cmp .lss (.var 11) (.var 6))) (.and (.not (.cmp .lss (.var 12) (.int 0))) (.and (.not (.cmp .lss (.var 12) (.fn 6 (.pr (.var 6) (.int 1))))) (.and (.not (.cmp .lss (.int 80) (.fn 9 (.pr (.var 2) (.int 4))))) (.and (.not (.cmp .lss (.fn 9 (.pr (.var 2) (.int 4))) (.var 3))) (.and (.not (.cmp .lss (.int 80) (.var 3))) (.and (.not (.cmp .lss (.var 3) (.int 0))) (.and (.not (.cmp .lss (.var 3) (.var 10))) (.and (.not (.cmp .lss (.var 6) (.int 1))) (.and (.not (.cmp .lss (.int 80) (.var 10))) (.cmp .eql (.var 6) (.var 10)))))))))))))))) (.not (.cmp .lss (.int 80) (.ar .add .i64 (.var 10) (.int 1)))))
theorem fact35 (ρ : Env) : E.B ρ f35 = true := by
  unfold f35
  simp only [sm_I_int, sm_I_fn6, sm_I_fn7, sm_I_fn8, sm_B_bool, sm_B_eql, sm_B_lss, sm_B_not, sm_B_and, sm_B_imp, sm_I_add_i64, sm_I_sub_i64, d110, d33, d32, dop, dpl, dL34, dL35, dL2, dL3, dL23, dL10, dd_int, dd_bool, d100, d101, d103, d104, d36, d39, d0, d9, List.map_nil, List.map_cons, List.map_append, List.length_nil]
  rintro ⟨p0, p1, p2, p3, p4, p5, p6, p7, p8, p9, p10, p11, p12, p13, p14⟩
  have g0 := rel_c0 p1
  have g1 := rel_c1 p1
  have g2 := rel_rows p1
  try simp only [sm_I_int] at *
  obtain ⟨y0, e0, q0, h0⟩ := cs_i64 (E.I ρ (.var 10) + 1)
  try simp only [e0] at *
  omega
noncomputable def f36 : E := (.imp (.and (.cmp .lss (.var 3) (.fn 9 (.pr (.var 2) (.int 4)))) (.and (.fn 1 (.pr (.var 5) (.fn 6 (.pr (.fn 8 (.pr (.fn 1 (.pr (.var 2) (.fn 6 (.pr (.fn 8 (.pr (.var 3) (.int 4))) (.int 1))))) (.int 2))) (.int 0))))) (.and (.cmp .lss (.fn 1 (.pr (.var 5) (.fn 6 (.pr (.fn 8 (.pr (.fn 1 (.pr (.var 2) (.fn 6 (.pr (.fn 8 (.pr (.var 3) (.int 4))) (.int 1))))) (.int 2))) (.int 1))))) (.int 0)) (.and (.cmp .eql (.var 11) (.fn 100 (.pr (.var 5) (.int 1)))) (.and (.not (.cmp .lss (.var 11) (.int 0))) (.and (.not (.cmp .lss (.var 13) (.int 0))) (.and (.not (.cmp .lss (.var 13) (.var 6))) (.and (.not (.cmp .lss (.int 80) (.fn 9 (.pr (.var 2) (.int 4))))) (.and (.not (.cmp .lss (.fn 9 (.pr (.var 2) (.int 4))) (.var 3))) (.and (.not (.cmp .lss (.int 80) (.var 3))) (.and (.not (.cmp .lss (.var 3) (.int 0))) (.and (.not (.cmp .lss (.var 3) (.var 10))) (.and (.not (.cmp .lss (.var 6) (.int 1))) (.and (.not (.cmp .lss (.int 80) (.var 10))) (.and (.not (.cmp .lss (.var 7) (.int 0))) (.and (.cmp .eql (.var 6) (.var 10)) (.fn 110 (.pr (.var 4) (.pr (.var 5) (.pr (.var 8) (.pr (.var 9) (.var 10)))))))))))))))))))))) (.cmp .eql (.var 9) (.var 11)))
theorem fact36 (ρ : Env) : E.B ρ f36 = true := by
  unfold f36
  simp only [sm_I_int, sm_I_fn6, sm_I_fn7, sm_I_fn8, sm_B_bool, sm_B_eql, sm_B_lss, sm_B_not, sm_B_and, sm_B_imp, sm_I_add_i64, sm_I_sub_i64, d110, d33, d32, dop, dpl, dL34, dL35, dL2, dL3, dL23, dL10, dd_int, dd_bool, d100, d101, d103, d104, d36, d39, d0, d9, List.map_nil, List.map_cons, List.map_append, List.length_nil]
  rintro ⟨p0, p1, p2, p3, p4, p5, p6, p7, p8, p9, p10, p11, p12, p13, p14, p15, p16⟩
  try generalize E.I ρ (.fn 1 (.pr (.var 2) (.fn 6 (.pr (.fn 8 (.pr (.var 3) (.int 4))) (.int 1))))) = z0 at *
  have g0 := rel_c0 p16
  have g1 := rel_c1 p16
  have g2 := rel_rows p16
  try simp only [sm_I_int] at *
  omega
noncomputable def f37 : E := (.imp (.and (.cmp .lss (.var 3) (.fn 9 (.pr (.var 2) (.int 4)))) (.and (.not (.cmp .lss (.fn 1 (.pr (.var 2) (.fn 6 (.pr (.fn 8 (.pr (.var 3) (.int 4))) (.int 1))))) (.int 0))) (.and (.cmp .lss (.fn 1 (.pr (.var 2) (.fn 6 (.pr (.fn 8 (.pr (.var 3) (.int 4))) (.int 1))))) (.var 6)) (.and (.fn 1 (.pr (.var 5) (.fn 6 (.pr (.fn 8 (.pr (.fn 1 (.pr (.var 2) (.fn 6 (.pr (.fn 8 (.pr (.var 3) (.int 4))) (.int 1))))) (.int 2))) (.int 0))))) (.and (.cmp .lss (.fn 1 (.pr (.var 5) (.fn 6 (.pr (.fn 8 (.pr (.fn 1 (.pr (.var 2) (.fn 6 (.pr (.fn 8 (.pr (.var 3) (.int 4))) (.int 1))))) (.int 2))) (.int 1))))) (.int 0)) (.and (.not (.cmp .lss (.int 80) (.fn 9 (.pr (.var 2) (.int 4))))) (.and (.not (.cmp .lss (.fn 9 (.pr (.var 2) (.int 4))) (.var 3))) (.and (.not (.cmp .lss (.int 80) (.var 3))) (.and (.not (.cmp .lss (.var 3) (.int 0))) (.and (.not (.cmp .lss (.var 3) (.var 10))) (.and (.not (.cmp .lss (.var 6) (.int 1))) (.and (.not (.cmp .lss (.int 80) (.var 10))) (.and (.not (.cmp .lss (.var 7) (.int 0))) (.and (.cmp .eql (.var 6) (.var 10)) (.fn 110 (.pr (.var 4) (.pr (.var 5) (.pr (.var 8) (.pr (.var 9) (.var 10)))))))))))))))))))) (.fn 33 (.pr (.var 4) (.fn 1 (.pr (.var 2) (.fn 6 (.pr (.fn 8 (.pr (.var 3) (.int 4))) (.int 1))))))))
theorem fact37 (ρ : Env) : E.B ρ f37 = true := by
  unfold f37
  simp only [sm_I_int, sm_I_fn6, sm_I_fn7, sm_I_fn8, sm_B_bool, sm_B_eql, sm_B_lss, sm_B_not, sm_B_and, sm_B_imp, sm_I_add_i64, sm_I_sub_i64, d110, d33, d32, dop, dpl, dL34, dL35, dL2, dL3, dL23, dL10, dd_int, dd_bool, d100, d101, d103, d104, d36, d39, d0, d9, List.map_nil, List.map_cons, List.map_append, List.length_nil]
  rintro ⟨p0, p1, p2, p3, p4, p5, p6, p7, p8, p9, p10, p11, p12, p13, p14⟩
  try generalize E.I ρ (.fn 1 (.pr (.var 2) (.fn 6 (.pr (.fn 8 (.pr (.var 3) (.int 4))) (.int 1))))) = z0 at *
  rcases rel_look p14 z0 with ⟨hn, hh⟩ | ⟨v, hn, h1, h2, h3, h4, h5, h6⟩
  all_goals simp only [hn, Option.isSome_none, Option.isSome_some, Option.getD_none, Option.getD_some, U.toI] at *
  all_goals first
    | omega
    | (exfalso; exact hh (by omega) (by omega) (by assumption))
    | (simp_all; done)
    | (simp_all; omega)
    | (intro hq; simp_all; omega)
noncomputable def f38 : E := (.imp (.and (.not (.cmp .lss (.int 80) (.fn 9 (.pr (.var 2) (.int 4))))) (.and (.not (.cmp .lss (.fn 9 (.pr (.var 2) (.int 4))) (.var 3))) (.and (.not (.cmp .lss (.int 80) (.var 3))) (.and (.not (.cmp .lss (.var 3) (.int 0))) (.and (.not (.cmp .lss (.var 3) (.var 10))) (.and (.not (.cmp .lss (.var 6) (.int 1))) (.and (.not (.cmp .lss (.int 80) (.var 10))) (.cmp .eql (.var 6) (.var 10))))))))) (.not (.cmp .lss (.ar .add .i64 (.var 3) (.int 1)) (.ar .add .i64 (.var 10) (.int 1)))))
theorem fact38 (ρ : Env) : E.B ρ f38 = true := by
  unfold f38
  simp only [sm_I_int, sm_I_mn, sm_I_mx, sm_I_add_u64, sm_I_sub_u64, sm_I_add_i64, sm_I_sub_i64, sm_I_mul_i64, sm_I_fn6, sm_I_fn7, sm_I_fn8, sm_B_bool, sm_B_eql, sm_B_lss, sm_B_not, sm_B_and, sm_B_imp, sm_B_iff]
  rintro ⟨p0, p1, p2, p3, p4, p5, p6, p7⟩
  try generalize E.I ρ (.fn 9 (.pr (.var 2) (.int 4))) = x0 at *
  try generalize E.I ρ (.var 3) = x1 at *
  try generalize E.I ρ (.var 10) = x2 at *
  try generalize E.I ρ (.var 6) = x3 at *
  obtain ⟨y0, e0, q0, h0⟩ := cs_i64 (x1 + 1)
  try simp only [e0] at *
  obtain ⟨y1, e1, q1, h1⟩ := cs_i64 (x2 + 1)
  try simp only [e1] at *
  omega
noncomputable def f39 : E := (.imp (.and (.cmp .lss (.var 3) (.fn 9 (.pr (.var 2) (.int 4)))) (.and (.not (.cmp .lss (.fn 1 (.pr (.var 2) (.fn 6 (.pr (.fn 8 (.pr (.var 3) (.int 4))) (.int 1))))) (.int 0))) (.and (.cmp .lss (.fn 1 (.pr (.var 2) (.fn 6 (.pr (.fn 8 (.pr (.var 3) (.int 4))) (.int 1))))) (.var 6)) (.and (.fn 1 (.pr (.var 5) (.fn 6 (.pr (.fn 8 (.pr (.fn 1 (.pr (.var 2) (.fn 6 (.pr (.fn 8 (.pr (.var 3) (.int 4))) (.int 1))))) (.int 2))) (.int 0))))) (.and (.cmp .lss (.fn 1 (.pr (.var 5) (.fn 6 (.pr (.fn 8 (.pr (.fn 1 (.pr (.var 2) (.fn 6 (.pr (.fn 8 (.pr (.var 3) (.int 4))) (.int 1))))) (.int 2))) (.int 1))))) (.int 0)) (.and (.cmp .eql (.var 11) (.fn 100 (.pr (.var 5) (.int 1)))) (.and (.not (.cmp .lss (.var 11) (.int 0))) (.and (.not (.cmp .lss (.var 13) (.int 0))) (.and (.not (.cmp .lss (.var 13) (.var 6))) (.and (.not (.cmp .lss (.int 80) (.fn 9 (.pr (.var 2) (.int 4))))) (.and (.not (.cmp .lss (.fn 9 (.pr (.var 2) (.int 4))) (.var 3))) (.and (.not (.cmp .lss (.int 80) (.var 3))) (.and (.not (.cmp .lss (.var 3) (.int 0))) (.and (.not (.cmp .lss (.var 3) (.var 10))) (.and (.not (.cmp .lss (.var 6) (.int 1))) (.and (.not (.cmp .lss (.int 80) (.var 10))) (.and (.not (.cmp .lss (.var 7) (.int 0))) (.and (.cmp .eql (.var 6) (.var 10)) (.fn 110 (.pr (.var 4) (.pr (.var 5) (.pr (.var 8) (.pr (.var 9) (.var 10)))))))))))))))))))))))) (.fn 110 (.pr (.fn 34 (.pr (.fn 35 (.pr (.var 4) (.var 9))) (.pr (.fn 1 (.pr (.var 2) (.fn 6 (.pr (.fn 8 (.pr (.var 3) (.int 4))) (.int 1))))) (.int 1)))) (.pr (.fn 2 (.pr (.fn 2 (.pr (.fn 2 (.pr (.fn 2 (.pr (.var 5) (.pr (.fn 6 (.pr (.fn 8 (.pr (.fn 1 (.pr (.var 2) (.fn 6 (.pr (.fn 8 (.pr (.var 3) (.int 4))) (.int 1))))) (.int 2))) (.int 0))) (.bool false)))) (.pr (.fn 6 (.pr (.fn 8 (.pr (.fn 1 (.pr (.var 2) (.fn 6 (.pr (.fn 8 (.pr (.var 3) (.int 4))) (.int 1))))) (.int 2))) (.int 0))) (.bool true)))) (.pr (.fn 6 (.pr (.fn 8 (.pr (.fn 1 (.pr (.var 2) (.fn 6 (.pr (.fn 8 (.pr (.var 3) (.int 4))) (.int 1))))) (.int 2))) (.int 1))) (.int 1)))) (.pr (.fn 6 (.pr (.fn 8 (.pr (.var 11) (.int 2))) (.int 0))) (.bool false)))) (.pr (.var 8) (.pr (.fn 1 (.pr (.var 2) (.fn 6 (.pr (.fn 8 (.pr (.var 3) (.int 4))) (.int 1))))) (.var 10)))))))
theorem fact39 (ρ : Env) : E.B ρ f39 = true := by
  unfold f39
  simp only [sm_I_int, sm_I_fn6, sm_I_fn7, sm_I_fn8, sm_B_bool, sm_B_eql, sm_B_lss, sm_B_not, sm_B_and, sm_B_imp, sm_I_add_i64, sm_I_sub_i64, d110, d33, d32, dop, dpl, dL34, dL35, dL2, dL3, dL23, dL10, dd_int, dd_bool, d100, d101, d103, d104, d36, d39, d0, d9, List.map_nil, List.map_cons, List.map_append, List.length_nil]
  rintro ⟨p0, p1, p2, p3, p4, p5, p6, p7, p8, p9, p10, p11, p12, p13, p14, p15, p16, p17, p18⟩
  try generalize E.I ρ (.fn 1 (.pr (.var 2) (.fn 6 (.pr (.fn 8 (.pr (.var 3) (.int 4))) (.int 1))))) = z0 at *
  have g0 := rel_c0 p18
  have g1 := rel_c1 p18
  have he : (E.I ρ (.var 11)) = (E.I ρ (.var 9)) := by omega
  rw [he]
  exact rel_hello p18 (p := 1) (by omega) (by omega) (by assumption) (by omega) (by decide) (by simp) (by omega) (by simp) (by simp)
noncomputable def f40 : E := (.imp (.and (.cmp .lss (.var 3) (.fn 9 (.pr (.var 2) (.int 4)))) (.and (.fn 1 (.pr (.var 5) (.fn 6 (.pr (.fn 8 (.pr (.fn 1 (.pr (.var 2) (.fn 6 (.pr (.fn 8 (.pr (.var 3) (.int 4))) (.int 1))))) (.int 2))) (.int 0))))) (.and (.cmp .lss (.fn 1 (.pr (.var 5) (.fn 6 (.pr (.fn 8 (.pr (.fn 1 (.pr (.var 2) (.fn 6 (.pr (.fn 8 (.pr (.var 3) (.int 4))) (.int 1))))) (.int 2))) (.int 1))))) (.int 0)) (.and (.cmp .eql (.var 11) (.fn 100 (.pr (.var 5) (.int 1)))) (.and (.not (.cmp .lss (.var 12) (.int 0))) (.and (.not (.cmp .lss (.var 12) (.var 6))) (.and (.cmp .lss (.var 11) (.int 0)) (.and (.not (.cmp .lss (.int 80) (.fn 9 (.pr (.var 2) (.int 4))))) (.and (.not (.cmp .lss (.fn 9 (.pr (.var 2) (.int 4))) (.var 3))) (.and (.not (.cmp .lss (.int 80) (.var 3))) (.and (.not (.cmp .lss (.var 3) (.int 0))) (.and (.not (.cmp .lss (.var 3) (.var 10))) (.and (.not (.cmp .lss (.var 6) (.int 1))) (.and (.not (.cmp .lss (.int 80) (.var 10))) (.and (.not (.cmp .lss (.var 7) (.int 0))) (.and (.cmp .eql (.var 6) (.var 10)) (.fn 110 (.pr (.var 4) (.pr (.var 5) (.pr (.var 8) (.pr (.var 9) (.var 10)))))))))))))))))))))) (.cmp .eql (.var 9) (.var 11)))
theorem fact40 (ρ : Env) : E.B ρ f40 = true := by
  unfold f40
  simp only [sm_I_int, sm_I_fn6, sm_I_fn7, sm_I_fn8, sm_B_bool, sm_B_eql, sm_B_lss, sm_B_not, sm_B_and, sm_B_imp, sm_I_add_i64, sm_I_sub_i64, d110, d33, d32, dop, dpl, dL34, dL35, dL2, dL3, dL23, dL10, dd_int, dd_bool, d100, d101, d103, d104, d36, d39, d0, d9, List.map_nil, List.map_cons, List.map_append, List.length_nil]
  rintro ⟨p0, p1, p2, p3, p4, p5, p6, p7, p8, p9, p10, p11, p12, p13, p14, p15, p16⟩
  try generalize E.I ρ (.fn 1 (.pr (.var 2) (.fn 6 (.pr (.fn 8 (.pr (.var 3) (.int 4))) (.int 1))))) = z0 at *
  have g0 := rel_c0 p16
  have g1 := rel_c1 p16
  have g2 := rel_rows p16
  try simp only [sm_I_int] at *
  omega
noncomputable def f41 : E := (.imp (.and (.cmp .lss (.var 3) (.fn 9 (.pr (.var 2) (.int 4)))) (.and (.not (.cmp .lss (.fn 1 (.pr (.var 2) (.fn 6 (.pr (.fn 8 (.pr (.var 3) (.int 4))) (.int 1))))) (.int 0))) (.and (.cmp .lss (.fn 1 (.pr (.var 2) (.fn 6 (.pr (.fn 8 (.pr (.var 3) (.int 4))) (.int 1))))) (.var 6)) (.and (.fn 1 (.pr (.var 5) (.fn 6 (.pr (.fn 8 (.pr (.fn 1 (.pr (.var 2) (.fn 6 (.pr (.fn 8 (.pr (.var 3) (.int 4))) (.int 1))))) (.int 2))) (.int 0))))) (.and (.cmp .lss (.fn 1 (.pr (.var 5) (.fn 6 (.pr (.fn 8 (.pr (.fn 1 (.pr (.var 2) (.fn 6 (.pr (.fn 8 (.pr (.var 3) (.int 4))) (.int 1))))) (.int 2))) (.int 1))))) (.int 0)) (.and (.not (.cmp .lss (.int 80) (.fn 9 (.pr (.var 2) (.int 4))))) (.and (.not (.cmp .lss (.fn 9 (.pr (.var 2) (.int 4))) (.var 3))) (.and (.not (.cmp .lss (.int 80) (.var 3))) (.and (.not (.cmp .lss (.var 3) (.int 0))) (.and (.not (.cmp .lss (.var 3) (.var 10))) (.and (.not (.cmp .lss (.var 6) (.int 1))) (.and (.not (.cmp .lss (.int 80) (.var 10))) (.and (.not (.cmp .lss (.var 7) (.int 0))) (.and (.cmp .eql (.var 6) (.var 10)) (.fn 110 (.pr (.var 4) (.pr (.var 5) (.pr (.var 8) (.pr (.var 9) (.var 10)))))))))))))))))))) (.cmp .eql (.fn 32 (.pr (.var 4) (.pr (.fn 1 (.pr (.var 2) (.fn 6 (.pr (.fn 8 (.pr (.var 3) (.int 4))) (.int 1))))) (.int 0)))) (.int (-1))))
theorem fact41 (ρ : Env) : E.B ρ f41 = true := by
  unfold f41
  simp only [sm_I_int, sm_I_fn6, sm_I_fn7, sm_I_fn8, sm_B_bool, sm_B_eql, sm_B_lss, sm_B_not, sm_B_and, sm_B_imp, sm_I_add_i64, sm_I_sub_i64, d110, d33, d32, dop, dpl, dL34, dL35, dL2, dL3, dL23, dL10, dd_int, dd_bool, d100, d101, d103, d104, d36, d39, d0, d9, List.map_nil, List.map_cons, List.map_append, List.length_nil]
  rintro ⟨p0, p1, p2, p3, p4, p5, p6, p7, p8, p9, p10, p11, p12, p13, p14⟩
  try generalize E.I ρ (.fn 1 (.pr (.var 2) (.fn 6 (.pr (.fn 8 (.pr (.var 3) (.int 4))) (.int 1))))) = z0 at *
  rcases rel_look p14 z0 with ⟨hn, hh⟩ | ⟨v, hn, h1, h2, h3, h4, h5, h6⟩
  all_goals simp only [hn, Option.isSome_none, Option.isSome_some, Option.getD_none, Option.getD_some, U.toI] at *
  all_goals first
    | omega
    | (exfalso; exact hh (by omega) (by omega) (by assumption))
    | (simp_all; done)
    | (simp_all; omega)
    | (intro hq; simp_all; omega)
noncomputable def f42 : E := (.imp (.and (.cmp .lss (.var 3) (.fn 9 (.pr (.var 2) (.int 4)))) (.and (.not (.cmp .lss (.fn 1 (.pr (.var 2) (.fn 6 (.pr (.fn 8 (.pr (.var 3) (.int 4))) (.int 1))))) (.int 0))) (.and (.cmp .lss (.fn 1 (.pr (.var 2) (.fn 6 (.pr (.fn 8 (.pr (.var 3) (.int 4))) (.int 1))))) (.var 6)) (.and (.fn 1 (.pr (.var 5) (.fn 6 (.pr (.fn 8 (.pr (.fn 1 (.pr (.var 2) (.fn 6 (.pr (.fn 8 (.pr (.var 3) (.int 4))) (.int 1))))) (.int 2))) (.int 0))))) (.and (.cmp .lss (.fn 1 (.pr (.var 5) (.fn 6 (.pr (.fn 8 (.pr (.fn 1 (.pr (.var 2) (.fn 6 (.pr (.fn 8 (.pr (.var 3) (.int 4))) (.int 1))))) (.int 2))) (.int 1))))) (.int 0)) (.and (.cmp .eql (.var 11) (.fn 100 (.pr (.var 5) (.int 1)))) (.and (.not (.cmp .lss (.var 12) (.int 0))) (.and (.not (.cmp .lss (.var 12) (.var 6))) (.and (.cmp .lss (.var 11) (.int 0)) (.and (.not (.cmp .lss (.int 80) (.fn 9 (.pr (.var 2) (.int 4))))) (.and (.not (.cmp .lss (.fn 9 (.pr (.var 2) (.int 4))) (.var 3))) (.and (.not (.cmp .lss (.int 80) (.var 3))) (.and (.not (.cmp .lss (.var 3) (.int 0))) (.and (.not (.cmp .lss (.var 3) (.var 10))) (.and (.not (.cmp .lss (.var 6) (.int 1))) (.and (.not (.cmp .lss (.int 80) (.var 10))) (.and (.not (.cmp .lss (.var 7) (.int 0))) (.and (.cmp .eql (.var 6) (.var 10)) (.fn 110 (.pr (.var 4) (.pr (.var 5) (.pr (.var 8) (.pr (.var 9) (.var 10)))))))))))))))))))))))) (.fn 110 (.pr (.fn 34 (.pr (.fn 35 (.pr (.var 4) (.var 9))) (.pr (.fn 1 (.pr (.var 2) (.fn 6 (.pr (.fn 8 (.pr (.var 3) (.int 4))) (.int 1))))) (.int 1)))) (.pr (.fn 2 (.pr (.fn 2 (.pr (.fn 2 (.pr (.var 5) (.pr (.fn 6 (.pr (.fn 8 (.pr (.fn 1 (.pr (.var 2) (.fn 6 (.pr (.fn 8 (.pr (.var 3) (.int 4))) (.int 1))))) (.int 2))) (.int 0))) (.bool false)))) (.pr (.fn 6 (.pr (.fn 8 (.pr (.fn 1 (.pr (.var 2) (.fn 6 (.pr (.fn 8 (.pr (.var 3) (.int 4))) (.int 1))))) (.int 2))) (.int 0))) (.bool true)))) (.pr (.fn 6 (.pr (.fn 8 (.pr (.fn 1 (.pr (.var 2) (.fn 6 (.pr (.fn 8 (.pr (.var 3) (.int 4))) (.int 1))))) (.int 2))) (.int 1))) (.int 1)))) (.pr (.var 8) (.pr (.fn 1 (.pr (.var 2) (.fn 6 (.pr (.fn 8 (.pr (.var 3) (.int 4))) (.int 1))))) (.var 10)))))))
theorem fact42 (ρ : Env) : E.B ρ f42 = true := by
  unfold f42
  simp only [sm_I_int, sm_I_fn6, sm_I_fn7, sm_I_fn8, sm_B_bool, sm_B_eql, sm_B_lss, sm_B_not, sm_B_and, sm_B_imp, sm_I_add_i64, sm_I_sub_i64, d110, d33, d32, dop, dpl, dL34, dL35, dL2, dL3, dL23, dL10, dd_int, dd_bool, d100, d101, d103, d104, d36, d39, d0, d9, List.map_nil, List.map_cons, List.map_append, List.length_nil]
  rintro ⟨p0, p1, p2, p3, p4, p5, p6, p7, p8, p9, p10, p11, p12, p13, p14, p15, p16, p17, p18⟩
  try generalize E.I ρ (.fn 1 (.pr (.var 2) (.fn 6 (.pr (.fn 8 (.pr (.var 3) (.int 4))) (.int 1))))) = z0 at *
  have g0 := rel_c0 p18
  have g1 := rel_c1 p18
  exact rel_hello' p18 (p := 1) (by omega) (by omega) (by assumption) (by omega) (by decide) (by simp) (by omega) (by simp) (by simp)
noncomputable def f43 : E := (.imp (.and (.cmp .lss (.var 3) (.fn 9 (.pr (.var 2) (.int 4)))) (.and (.fn 1 (.pr (.var 5) (.fn 6 (.pr (.fn 8 (.pr (.fn 1 (.pr (.var 2) (.fn 6 (.pr (.fn 8 (.pr (.var 3) (.int 4))) (.int 1))))) (.int 2))) (.int 0))))) (.and (.cmp .lss (.fn 1 (.pr (.var 5) (.fn 6 (.pr (.fn 8 (.pr (.fn 1 (.pr (.var 2) (.fn 6 (.pr (.fn 8 (.pr (.var 3) (.int 4))) (.int 1))))) (.int 2))) (.int 1))))) (.int 0)) (.and (.cmp .eql (.var 11) (.fn 100 (.pr (.var 5) (.int 0)))) (.and (.not (.cmp .lss (.var 11) (.int 0))) (.and (.not (.cmp .lss (.var 13) (.int 0))) (.and (.not (.cmp .lss (.var 13) (.var 6))) (.and (.not (.cmp .lss (.int 80) (.fn 9 (.pr (.var 2) (.int 4))))) (.and (.not (.cmp .lss (.fn 9 (.pr (.var 2) (.int 4))) (.var 3))) (.and (.not (.cmp .lss (.int 80) (.var 3))) (.and (.not (.cmp .lss (.var 3) (.int 0))) (.and (.not (.cmp .lss (.var 3) (.var 10))) (.and (.not (.cmp .lss (.var 6) (.int 1))) (.and (.not (.cmp .lss (.int 80) (.var 10))) (.and (.not (.cmp .lss (.var 7) (.int 0))) (.and (.cmp .eql (.var 6) (.var 10)) (.fn 110 (.pr (.var 4) (.pr (.var 5) (.pr (.var 8) (.pr (.var 9) (.var 10)))))))))))))))))))))) (.cmp .eql (.var 8) (.var 11)))
theorem fact43 (ρ : Env) : E.B ρ f43 = true := by
  unfold f43
  simp only [sm_I_int, sm_I_fn6, sm_I_fn7, sm_I_fn8, sm_B_bool, sm_B_eql, sm_B_lss, sm_B_not, sm_B_and, sm_B_imp, sm_I_add_i64, sm_I_sub_i64, d110, d33, d32, dop, dpl, dL34, dL35, dL2, dL3, dL23, dL10, dd_int, dd_bool, d100, d101, d103, d104, d36, d39, d0, d9, List.map_nil, List.map_cons, List.map_append, List.length_nil]
  rintro ⟨p0, p1, p2, p3, p4, p5, p6, p7, p8, p9, p10, p11, p12, p13, p14, p15, p16⟩
  try generalize E.I ρ (.fn 1 (.pr (.var 2) (.fn 6 (.pr (.fn 8 (.pr (.var 3) (.int 4))) (.int 1))))) = z0 at *
  have g0 := rel_c0 p16
  have g1 := rel_c1 p16
  have g2 := rel_rows p16
  try simp only [sm_I_int] at *
  omega
noncomputable def f44 : E := (.imp (.and (.cmp .lss (.var 3) (.fn 9 (.pr (.var 2) (.int 4)))) (.and (.fn 1 (.pr (.var 5) (.fn 6 (.pr (.fn 8 (.pr (.fn 1 (.pr (.var 2) (.fn 6 (.pr (.fn 8 (.pr (.var 3) (.int 4))) (.int 1))))) (.int 2))) (.int 0))))) (.and (.cmp .lss (.fn 1 (.pr (.var 5) (.fn 6 (.pr (.fn 8 (.pr (.fn 1 (.pr (.var 2) (.fn 6 (.pr (.fn 8 (.pr (.var 3) (.int 4))) (.int 1))))) (.int 2))) (.int 1))))) (.int 0)) (.and (.cmp .eql (.var 11) (.fn 100 (.pr (.var 5) (.int 0)))) (.and (.not (.cmp .lss (.var 12) (.int 0))) (.and (.not (.cmp .lss (.var 12) (.var 6))) (.and (.cmp .lss (.var 11) (.int 0)) (.and (.not (.cmp .lss (.int 80) (.fn 9 (.pr (.var 2) (.int 4))))) (.and (.not (.cmp .lss (.fn 9 (.pr (.var 2) (.int 4))) (.var 3))) (.and (.not (.cmp .lss (.int 80) (.var 3))) (.and (.not (.cmp .lss (.var 3) (.int 0))) (.and (.not (.cmp .lss (.var 3) (.var 10))) (.and (.not (.cmp .lss (.var 6) (.int 1))) (.and (.not (.cmp .lss (.int 80) (.var 10))) (.and (.not (.cmp .lss (.var 7) (.int 0))) (.and (.cmp .eql (.var 6) (.var 10)) (.fn 110 (.pr (.var 4) (.pr (.var 5) (.pr (.var 8) (.pr (.var 9) (.var 10)))))))))))))))))))))) (.cmp .eql (.var 8) (.var 11)))
theorem fact44 (ρ : Env) : E.B ρ f44 = true := by
  unfold f44
  simp only [sm_I_int, sm_I_fn6, sm_I_fn7, sm_I_fn8, sm_B_bool, sm_B_eql, sm_B_lss, sm_B_not, sm_B_and, sm_B_imp, sm_I_add_i64, sm_I_sub_i64, d110, d33, d32, dop, dpl, dL34, dL35, dL2, dL3, dL23, dL10, dd_int, dd_bool, d100, d101, d103, d104, d36, d39, d0, d9, List.map_nil, List.map_cons, List.map_append, List.length_nil]
  rintro ⟨p0, p1, p2, p3, p4, p5, p6, p7, p8, p9, p10, p11, p12, p13, p14, p15, p16⟩
  try generalize E.I ρ (.fn 1 (.pr (.var 2) (.fn 6 (.pr (.fn 8 (.pr (.var 3) (.int 4))) (.int 1))))) = z0 at *
  have g0 := rel_c0 p16
  have g1 := rel_c1 p16
  have g2 := rel_rows p16
  try simp only [sm_I_int] at *
  omega
noncomputable def f45 : E := (.imp (.and (.cmp .lss (.var 3) (.fn 9 (.pr (.var 2) (.int 4)))) (.and (.not (.cmp .lss (.fn 1 (.pr (.var 2) (.fn 6 (.pr (.fn 8 (.pr (.var 3) (.int 4))) (.int 1))))) (.int 0))) (.and (.cmp .lss (.fn 1 (.pr (.var 2) (.fn 6 (.pr (.fn 8 (.pr (.var 3) (.int 4))) (.int 1))))) (.var 6)) (.and (.fn 1 (.pr (.var 5) (.fn 6 (.pr (.fn 8 (.pr (.fn 1 (.pr (.var 2) (.fn 6 (.pr (.fn 8 (.pr (.var 3) (.int 4))) (.int 1))))) (.int 2))) (.int 0))))) (.and (.cmp .lss (.fn 1 (.pr (.var 5) (.fn 6 (.pr (.fn 8 (.pr (.fn 1 (.pr (.var 2) (.fn 6 (.pr (.fn 8 (.pr (.var 3) (.int 4))) (.int 1))))) (.int 2))) (.int 1))))) (.int 0)) (.and (.cmp .eql (.var 11) (.fn 100 (.pr (.var 5) (.int 0)))) (.and (.not (.cmp .lss (.var 11) (.int 0))) (.and (.not (.cmp .lss (.var 13) (.int 0))) (.and (.not (.cmp .lss (.var 13) (.var 6))) (.and (.not (.cmp .lss (.int 80) (.fn 9 (.pr (.var 2) (.int 4))))) (.and (.not (.cmp .lss (.fn 9 (.pr (.var 2) (.int 4))) (.var 3))) (.and (.not (.cmp .lss (.int 80) (.var 3))) (.and (.not (.cmp .lss (.var 3) (.int 0))) (.and (.not (.cmp .lss (.var 3) (.var 10))) (.and (.not (.cmp .lss (.var 6) (.int 1))) (.and (.not (.cmp .lss (.int 80) (.var 10))) (.and (.not (.cmp .lss (.var 7) (.int 0))) (.and (.cmp .eql (.var 6) (.var 10)) (.fn 110 (.pr (.var 4) (.pr (.var 5) (.pr (.var 8) (.pr (.var 9) (.var 10)))))))))))))))))))))))) (.fn 110 (.pr (.fn 34 (.pr (.fn 35 (.pr (.var 4) (.var 8))) (.pr (.fn 1 (.pr (.var 2) (.fn 6 (.pr (.fn 8 (.pr (.var 3) (.int 4))) (.int 1))))) (.int 0)))) (.pr (.fn 2 (.pr (.fn 2 (.pr (.fn 2 (.pr (.fn 2 (.pr (.var 5) (.pr (.fn 6 (.pr (.fn 8 (.pr (.fn 1 (.pr (.var 2) (.fn 6 (.pr (.fn 8 (.pr (.var 3) (.int 4))) (.int 1))))) (.int 2))) (.int 0))) (.bool false)))) (.pr (.fn 6 (.pr (.fn 8 (.pr (.fn 1 (.pr (.var 2) (.fn 6 (.pr (.fn 8 (.pr (.var 3) (.int 4))) (.int 1))))) (.int 2))) (.int 0))) (.bool true)))) (.pr (.fn 6 (.pr (.fn 8 (.pr (.fn 1 (.pr (.var 2) (.fn 6 (.pr (.fn 8 (.pr (.var 3) (.int 4))) (.int 1))))) (.int 2))) (.int 1))) (.int 0)))) (.pr (.fn 6 (.pr (.fn 8 (.pr (.var 11) (.int 2))) (.int 0))) (.bool false)))) (.pr (.fn 1 (.pr (.var 2) (.fn 6 (.pr (.fn 8 (.pr (.var 3) (.int 4))) (.int 1))))) (.pr (.var 9) (.var 10)))))))
theorem fact45 (ρ : Env) : E.B ρ f45 = true := by
  unfold f45
  simp only [sm_I_int, sm_I_fn6, sm_I_fn7, sm_I_fn8, sm_B_bool, sm_B_eql, sm_B_lss, sm_B_not, sm_B_and, sm_B_imp, sm_I_add_i64, sm_I_sub_i64, d110, d33, d32, dop, dpl, dL34, dL35, dL2, dL3, dL23, dL10, dd_int, dd_bool, d100, d101, d103, d104, d36, d39, d0, d9, List.map_nil, List.map_cons, List.map_append, List.length_nil]
  rintro ⟨p0, p1, p2, p3, p4, p5, p6, p7, p8, p9, p10, p11, p12, p13, p14, p15, p16, p17, p18⟩
  try generalize E.I ρ (.fn 1 (.pr (.var 2) (.fn 6 (.pr (.fn 8 (.pr (.var 3) (.int 4))) (.int 1))))) = z0 at *
  have g0 := rel_c0 p18
  have g1 := rel_c1 p18
  have he : (E.I ρ (.var 11)) = (E.I ρ (.var 8)) := by omega
  rw [he]
  exact rel_hello p18 (p := 0) (by omega) (by omega) (by assumption) (by omega) (by decide) (by simp) (by omega) (by simp) (by simp)
noncomputable def f46 : E := (.imp (.and (.cmp .lss (.var 3) (.fn 9 (.pr (.var 2) (.int 4)))) (.and (.not (.cmp .lss (.fn 1 (.pr (.var 2) (.fn 6 (.pr (.fn 8 (.pr (.var 3) (.int 4))) (.int 1))))) (.int 0))) (.and (.cmp .lss (.fn 1 (.pr (.var 2) (.fn 6 (.pr (.fn 8 (.pr (.var 3) (.int 4))) (.int 1))))) (.var 6)) (.and (.fn 1 (.pr (.var 5) (.fn 6 (.pr (.fn 8 (.pr (.fn 1 (.pr (.var 2) (.fn 6 (.pr (.fn 8 (.pr (.var 3) (.int 4))) (.int 1))))) (.int 2))) (.int 0))))) (.and (.cmp .lss (.fn 1 (.pr (.var 5) (.fn 6 (.pr (.fn 8 (.pr (.fn 1 (.pr (.var 2) (.fn 6 (.pr (.fn 8 (.pr (.var 3) (.int 4))) (.int 1))))) (.int 2))) (.int 1))))) (.int 0)) (.and (.cmp .eql (.var 11) (.fn 100 (.pr (.var 5) (.int 0)))) (.and (.not (.cmp .lss (.var 12) (.int 0))) (.and (.not (.cmp .lss (.var 12) (.var 6))) (.and (.cmp .lss (.var 11) (.int 0)) (.and (.not (.cmp .lss (.int 80) (.fn 9 (.pr (.var 2) (.int 4))))) (.and (.not (.cmp .lss (.fn 9 (.pr (.var 2) (.int 4))) (.var 3))) (.and (.not (.cmp .lss (.int 80) (.var 3))) (.and (.not (.cmp .lss (.var 3) (.int 0))) (.and (.not (.cmp .lss (.var 3) (.var 10))) (.and (.not (.cmp .lss (.var 6) (.int 1))) (.and (.not (.cmp .lss (.int 80) (.var 10))) (.and (.not (.cmp .lss (.var 7) (.int 0))) (.and (.cmp .eql (.var 6) (.var 10)) (.fn 110 (.pr (.var 4) (.pr (.var 5) (.pr (.var 8) (.pr (.var 9) (.var 10)))))))))))))))))))))))) (.fn 110 (.pr (.fn 34 (.pr (.fn 35 (.pr (.var 4) (.var 8))) (.pr (.fn 1 (.pr (.var 2) (.fn 6 (.pr (.fn 8 (.pr (.var 3) (.int 4))) (.int 1))))) (.int 0)))) (.pr (.fn 2 (.pr (.fn 2 (.pr (.fn 2 (.pr (.var 5) (.pr (.fn 6 (.pr (.fn 8 (.pr (.fn 1 (.pr (.var 2) (.fn 6 (.pr (.fn 8 (.pr (.var 3) (.int 4))) (.int 1))))) (.int 2))) (.int 0))) (.bool false)))) (.pr (.fn 6 (.pr (.fn 8 (.pr (.fn 1 (.pr (.var 2) (.fn 6 (.pr (.fn 8 (.pr (.var 3) (.int 4))) (.int 1))))) (.int 2))) (.int 0))) (.bool true)))) (.pr (.fn 6 (.pr (.fn 8 (.pr (.fn 1 (.pr (.var 2) (.fn 6 (.pr (.fn 8 (.pr (.var 3) (.int 4))) (.int 1))))) (.int 2))) (.int 1))) (.int 0)))) (.pr (.fn 1 (.pr (.var 2) (.fn 6 (.pr (.fn 8 (.pr (.var 3) (.int 4))) (.int 1))))) (.pr (.var 9) (.var 10)))))))
theorem fact46 (ρ : Env) : E.B ρ f46 = true := by
  unfold f46
  simp only [sm_I_int, sm_I_fn6, sm_I_fn7, sm_I_fn8, sm_B_bool, sm_B_eql, sm_B_lss, sm_B_not, sm_B_and, sm_B_imp, sm_I_add_i64, sm_I_sub_i64, d110, d33, d32, dop, dpl, dL34, dL35, dL2, dL3, dL23, dL10, dd_int, dd_bool, d100, d101, d103, d104, d36, d39, d0, d9, List.map_nil, List.map_cons, List.map_append, List.length_nil]
  rintro ⟨p0, p1, p2, p3, p4, p5, p6, p7, p8, p9, p10, p11, p12, p13, p14, p15, p16, p17, p18⟩
  try generalize E.I ρ (.fn 1 (.pr (.var 2) (.fn 6 (.pr (.fn 8 (.pr (.var 3) (.int 4))) (.int 1))))) = z0 at *
  have g0 := rel_c0 p18
  have g1 := rel_c1 p18
  exact rel_hello' p18 (p := 0) (by omega) (by omega) (by assumption) (by omega) (by decide) (by simp) (by omega) (by simp) (by simp)
noncomputable def f47 : E := (.imp (.and (.cmp .lss (.var 3) (.fn 9 (.pr (.var 2) (.int 4)))) (.and (.not (.cmp .lss (.fn 1 (.pr (.var 2) (.fn 6 (.pr (.fn 8 (.pr (.var 3) (.int 4))) (.int 1))))) (.int 0))) (.and (.cmp .lss (.fn 1 (.pr (.var 2) (.fn 6 (.pr (.fn 8 (.pr (.var 3) (.int 4))) (.int 1))))) (.var 6)) (.and (.fn 1 (.pr (.var 5) (.fn 6 (.pr (.fn 8 (.pr (.fn 1 (.pr (.var 2) (.fn 6 (.pr (.fn 8 (.pr (.var 3) (.int 4))) (.int 1))))) (.int 2))) (.int 0))))) (.and (.not (.cmp .lss (.fn 1 (.pr (.var 5) (.fn 6 (.pr (.fn 8 (.pr (.fn 1 (.pr (.var 2) (.fn 6 (.pr (.fn 8 (.pr (.var 3) (.int 4))) (.int 1))))) (.int 2))) (.int 1))))) (.int 0))) (.and (.not (.cmp .lss (.int 80) (.fn 9 (.pr (.var 2) (.int 4))))) (.and (.not (.cmp .lss (.fn 9 (.pr (.var 2) (.int 4))) (.var 3))) (.and (.not (.cmp .lss (.int 80) (.var 3))) (.and (.not (.cmp .lss (.var 3) (.int 0))) (.and (.not (.cmp .lss (.var 3) (.var 10))) (.and (.not (.cmp .lss (.var 6) (.int 1))) (.and (.not (.cmp .lss (.int 80) (.var 10))) (.and (.not (.cmp .lss (.var 7) (.int 0))) (.and (.cmp .eql (.var 6) (.var 10)) (.fn 110 (.pr (.var 4) (.pr (.var 5) (.pr (.var 8) (.pr (.var 9) (.var 10)))))))))))))))))))) (.cmp .eql (.fn 32 (.pr (.var 4) (.pr (.fn 1 (.pr (.var 2) (.fn 6 (.pr (.fn 8 (.pr (.var 3) (.int 4))) (.int 1))))) (.int 0)))) (.fn 1 (.pr (.var 5) (.fn 6 (.pr (.fn 8 (.pr (.fn 1 (.pr (.var 2) (.fn 6 (.pr (.fn 8 (.pr (.var 3) (.int 4))) (.int 1))))) (.int 2))) (.int 1)))))))
theorem fact47 (ρ : Env) : E.B ρ f47 = true := by
  unfold f47
  simp only [sm_I_int, sm_I_fn6, sm_I_fn7, sm_I_fn8, sm_B_bool, sm_B_eql, sm_B_lss, sm_B_not, sm_B_and, sm_B_imp, sm_I_add_i64, sm_I_sub_i64, d110, d33, d32, dop, dpl, dL34, dL35, dL2, dL3, dL23, dL10, dd_int, dd_bool, d100, d101, d103, d104, d36, d39, d0, d9, List.map_nil, List.map_cons, List.map_append, List.length_nil]
  rintro ⟨p0, p1, p2, p3, p4, p5, p6, p7, p8, p9, p10, p11, p12, p13, p14⟩
  try generalize E.I ρ (.fn 1 (.pr (.var 2) (.fn 6 (.pr (.fn 8 (.pr (.var 3) (.int 4))) (.int 1))))) = z0 at *
  rcases rel_look p14 z0 with ⟨hn, hh⟩ | ⟨v, hn, h1, h2, h3, h4, h5, h6⟩
  all_goals simp only [hn, Option.isSome_none, Option.isSome_some, Option.getD_none, Option.getD_some, U.toI] at *
  all_goals first
    | omega
    | (exfalso; exact hh (by omega) (by omega) (by assumption))
    | (simp_all; done)
    | (simp_all; omega)
    | (intro hq; simp_all; omega)
noncomputable def f48 : E := (.imp (.and (.cmp .lss (.var 3) (.fn 9 (.pr (.var 2) (.int 4)))) (.and (.fn 33 (.pr (.fn 34 (.pr (.var 4) (.pr (.var 10) (.int (-1))))) (.int 0))) (.and (.cmp .eql (.fn 32 (.pr (.fn 34 (.pr (.var 4) (.pr (.var 10) (.int (-1))))) (.pr (.int 0) (.int 0)))) (.int (-1))) (.and (.fn 33 (.pr (.fn 34 (.pr (.fn 35 (.pr (.fn 34 (.pr (.var 4) (.pr (.var 10) (.int (-1))))) (.var 9))) (.pr (.int 0) (.int 1)))) (.int 0))) (.and (.not (.cmp .eql (.fn 32 (.pr (.fn 34 (.pr (.fn 35 (.pr (.fn 34 (.pr (.var 4) (.pr (.var 10) (.int (-1))))) (.var 9))) (.pr (.int 0) (.int 1)))) (.pr (.int 0) (.int 0)))) (.int (-1)))) (.and (.not (.cmp .eql (.fn 32 (.pr (.fn 34 (.pr (.fn 35 (.pr (.fn 34 (.pr (.var 4) (.pr (.var 10) (.int (-1))))) (.var 9))) (.pr (.int 0) (.int 1)))) (.pr (.int 0) (.int 0)))) (.int 0))) (.and (.not (.cmp .lss (.int 80) (.fn 9 (.pr (.var 2) (.int 4))))) (.and (.not (.cmp .lss (.fn 9 (.pr (.var 2) (.int 4))) (.var 3))) (.and (.not (.cmp .lss (.int 80) (.var 3))) (.and (.not (.cmp .lss (.var 3) (.int 0))) (.and (.not (.cmp .lss (.var 3) (.var 10))) (.and (.not (.cmp .lss (.var 6) (.int 1))) (.and (.not (.cmp .lss (.int 80) (.var 10))) (.and (.not (.cmp .lss (.var 7) (.int 0))) (.and (.cmp .eql (.var 6) (.var 10)) (.fn 110 (.pr (.var 4) (.pr (.var 5) (.pr (.var 8) (.pr (.var 9) (.var 10))))))))))))))))))))) (.cmp .eql (.fn 32 (.pr (.fn 34 (.pr (.fn 35 (.pr (.fn 34 (.pr (.var 4) (.pr (.var 10) (.int (-1))))) (.var 9))) (.pr (.int 0) (.int 1)))) (.pr (.int 0) (.int 0)))) (.int 1)))
theorem fact48 (ρ : Env) : E.B ρ f48 = true := by
  unfold f48
  simp only [sm_I_int, sm_I_fn6, sm_I_fn7, sm_I_fn8, sm_B_bool, sm_B_eql, sm_B_lss, sm_B_not, sm_B_and, sm_B_imp, sm_I_add_i64, sm_I_sub_i64, d110, d33, d32, dop, dpl, dL34, dL35, dL2, dL3, dL23, dL10, dd_int, dd_bool, d100, d101, d103, d104, d36, d39, d0, d9, List.map_nil, List.map_cons, List.map_append, List.length_nil]
  rintro ⟨p0, p1, p2, p3, p4, p5, p6, p7, p8, p9, p10, p11, p12, p13, p14, p15⟩
  simp only [mfind_put]
  simp [U.toI]
noncomputable def f49 : E := (.imp (.and (.cmp .lss (.var 3) (.fn 9 (.pr (.var 2) (.int 4)))) (.and (.fn 33 (.pr (.fn 34 (.pr (.var 4) (.pr (.var 10) (.int (-1))))) (.int 0))) (.and (.not (.cmp .eql (.fn 32 (.pr (.fn 34 (.pr (.var 4) (.pr (.var 10) (.int (-1))))) (.pr (.int 0) (.int 0)))) (.int (-1)))) (.and (.not (.cmp .eql (.fn 32 (.pr (.fn 34 (.pr (.var 4) (.pr (.var 10) (.int (-1))))) (.pr (.int 0) (.int 0)))) (.int 0))) (.and (.not (.cmp .lss (.int 80) (.fn 9 (.pr (.var 2) (.int 4))))) (.and (.not (.cmp .lss (.fn 9 (.pr (.var 2) (.int 4))) (.var 3))) (.and (.not (.cmp .lss (.int 80) (.var 3))) (.and (.not (.cmp .lss (.var 3) (.int 0))) (.and (.not (.cmp .lss (.var 3) (.var 10))) (.and (.not (.cmp .lss (.var 6) (.int 1))) (.and (.not (.cmp .lss (.int 80) (.var 10))) (.and (.not (.cmp .lss (.var 7) (.int 0))) (.and (.cmp .eql (.var 6) (.var 10)) (.fn 110 (.pr (.var 4) (.pr (.var 5) (.pr (.var 8) (.pr (.var 9) (.var 10))))))))))))))))))) (.cmp .eql (.fn 32 (.pr (.fn 34 (.pr (.var 4) (.pr (.var 10) (.int (-1))))) (.pr (.int 0) (.int 0)))) (.int 1)))
theorem fact49 (ρ : Env) : E.B ρ f49 = true := by
  unfold f49
  simp only [sm_I_int, sm_I_fn6, sm_I_fn7, sm_I_fn8, sm_B_bool, sm_B_eql, sm_B_lss, sm_B_not, sm_B_and, sm_B_imp, sm_I_add_i64, sm_I_sub_i64, d110, d33, d32, dop, dpl, dL34, dL35, dL2, dL3, dL23, dL10, dd_int, dd_bool, d100, d101, d103, d104, d36, d39, d0, d9, List.map_nil, List.map_cons, List.map_append, List.length_nil]
  rintro ⟨p0, p1, p2, p3, p4, p5, p6, p7, p8, p9, p10, p11, p12, p13⟩
  have ho := rel_open p13
  rcases rel_look ho (0) with ⟨hn, hh⟩ | ⟨v, hn, h1, h2, h3, h4, h5, h6⟩
  · exfalso; rw [hn] at p1; cases p1
  · simp only [hn, Option.getD_some] at p2 p3 ⊢; omega
noncomputable def f50 : E := (.imp (.and (.cmp .lss (.var 3) (.fn 9 (.pr (.var 2) (.int 4)))) (.and (.not (.cmp .lss (.fn 1 (.pr (.var 2) (.fn 6 (.pr (.fn 8 (.pr (.var 3) (.int 4))) (.int 1))))) (.int 0))) (.and (.cmp .lss (.fn 1 (.pr (.var 2) (.fn 6 (.pr (.fn 8 (.pr (.var 3) (.int 4))) (.int 1))))) (.var 6)) (.and (.fn 1 (.pr (.var 5) (.fn 6 (.pr (.fn 8 (.pr (.fn 1 (.pr (.var 2) (.fn 6 (.pr (.fn 8 (.pr (.var 3) (.int 4))) (.int 1))))) (.int 2))) (.int 0))))) (.and (.not (.cmp .lss (.var 11) (.int 0))) (.and (.not (.cmp .lss (.var 11) (.var 6))) (.and (.not (.cmp .lss (.int 80) (.fn 9 (.pr (.var 2) (.int 4))))) (.and (.not (.cmp .lss (.fn 9 (.pr (.var 2) (.int 4))) (.var 3))) (.and (.not (.cmp .lss (.int 80) (.var 3))) (.and (.not (.cmp .lss (.var 3) (.int 0))) (.and (.not (.cmp .lss (.var 3) (.var 10))) (.and (.not (.cmp .lss (.var 6) (.int 1))) (.and (.not (.cmp .lss (.int 80) (.var 10))) (.and (.not (.cmp .lss (.var 7) (.int 0))) (.and (.cmp .eql (.var 6) (.var 10)) (.fn 110 (.pr (.var 4) (.pr (.var 5) (.pr (.var 8) (.pr (.var 9) (.var 10))))))))))))))))))))) (.fn 33 (.pr (.var 4) (.fn 1 (.pr (.var 2) (.fn 6 (.pr (.fn 8 (.pr (.var 3) (.int 4))) (.int 1))))))))
theorem fact50 (ρ : Env) : E.B ρ f50 = true := by
  unfold f50
  simp only [sm_I_int, sm_I_fn6, sm_I_fn7, sm_I_fn8, sm_B_bool, sm_B_eql, sm_B_lss, sm_B_not, sm_B_and, sm_B_imp, sm_I_add_i64, sm_I_sub_i64, d110, d33, d32, dop, dpl, dL34, dL35, dL2, dL3, dL23, dL10, dd_int, dd_bool, d100, d101, d103, d104, d36, d39, d0, d9, List.map_nil, List.map_cons, List.map_append, List.length_nil]
  rintro ⟨p0, p1, p2, p3, p4, p5, p6, p7, p8, p9, p10, p11, p12, p13, p14, p15⟩
  try generalize E.I ρ (.fn 1 (.pr (.var 2) (.fn 6 (.pr (.fn 8 (.pr (.var 3) (.int 4))) (.int 1))))) = z0 at *
  rcases rel_look p15 z0 with ⟨hn, hh⟩ | ⟨v, hn, h1, h2, h3, h4, h5, h6⟩
  all_goals simp only [hn, Option.isSome_none, Option.isSome_some, Option.getD_none, Option.getD_some, U.toI] at *
  all_goals first
    | omega
    | (exfalso; exact hh (by omega) (by omega) (by assumption))
    | (simp_all; done)
    | (simp_all; omega)
    | (intro hq; simp_all; omega)
noncomputable def f51 : E := (.imp (.and (.cmp .lss (.var 3) (.fn 9 (.pr (.var 2) (.int 4)))) (.and (.not (.cmp .lss (.fn 1 (.pr (.var 2) (.fn 6 (.pr (.fn 8 (.pr (.var 3) (.int 4))) (.int 1))))) (.int 0))) (.and (.cmp .lss (.fn 1 (.pr (.var 2) (.fn 6 (.pr (.fn 8 (.pr (.var 3) (.int 4))) (.int 1))))) (.var 6)) (.and (.fn 1 (.pr (.var 5) (.fn 6 (.pr (.fn 8 (.pr (.fn 1 (.pr (.var 2) (.fn 6 (.pr (.fn 8 (.pr (.var 3) (.int 4))) (.int 1))))) (.int 2))) (.int 0))))) (.and (.not (.cmp .lss (.var 11) (.int 0))) (.and (.not (.cmp .lss (.var 11) (.var 6))) (.and (.not (.cmp .eql (.fn 32 (.pr (.var 4) (.pr (.fn 1 (.pr (.var 2) (.fn 6 (.pr (.fn 8 (.pr (.var 3) (.int 4))) (.int 1))))) (.int 0)))) (.int (-1)))) (.and (.not (.cmp .eql (.fn 32 (.pr (.var 4) (.pr (.fn 1 (.pr (.var 2) (.fn 6 (.pr (.fn 8 (.pr (.var 3) (.int 4))) (.int 1))))) (.int 0)))) (.int 0))) (.and (.not (.cmp .lss (.int 80) (.fn 9 (.pr (.var 2) (.int 4))))) (.and (.not (.cmp .lss (.fn 9 (.pr (.var 2) (.int 4))) (.var 3))) (.and (.not (.cmp .lss (.int 80) (.var 3))) (.and (.not (.cmp .lss (.var 3) (.int 0))) (.and (.not (.cmp .lss (.var 3) (.var 10))) (.and (.not (.cmp .lss (.var 6) (.int 1))) (.and (.not (.cmp .lss (.int 80) (.var 10))) (.and (.not (.cmp .lss (.var 7) (.int 0))) (.and (.cmp .eql (.var 6) (.var 10)) (.fn 110 (.pr (.var 4) (.pr (.var 5) (.pr (.var 8) (.pr (.var 9) (.var 10))))))))))))))))))))))) (.cmp .eql (.fn 32 (.pr (.var 4) (.pr (.fn 1 (.pr (.var 2) (.fn 6 (.pr (.fn 8 (.pr (.var 3) (.int 4))) (.int 1))))) (.int 0)))) (.int 1)))
theorem fact51 (ρ : Env) : E.B ρ f51 = true := by
  unfold f51
  simp only [sm_I_int, sm_I_fn6, sm_I_fn7, sm_I_fn8, sm_B_bool, sm_B_eql, sm_B_lss, sm_B_not, sm_B_and, sm_B_imp, sm_I_add_i64, sm_I_sub_i64, d110, d33, d32, dop, dpl, dL34, dL35, dL2, dL3, dL23, dL10, dd_int, dd_bool, d100, d101, d103, d104, d36, d39, d0, d9, List.map_nil, List.map_cons, List.map_append, List.length_nil]
  rintro ⟨p0, p1, p2, p3, p4, p5, p6, p7, p8, p9, p10, p11, p12, p13, p14, p15, p16, p17⟩
  try generalize E.I ρ (.fn 1 (.pr (.var 2) (.fn 6 (.pr (.fn 8 (.pr (.var 3) (.int 4))) (.int 1))))) = z0 at *
  rcases rel_look p17 z0 with ⟨hn, hh⟩ | ⟨v, hn, h1, h2, h3, h4, h5, h6⟩
  all_goals simp only [hn, Option.isSome_none, Option.isSome_some, Option.getD_none, Option.getD_some, U.toI] at *
  all_goals first
    | omega
    | (exfalso; exact hh (by omega) (by omega) (by assumption))
    | (simp_all; done)
    | (simp_all; omega)
    | (intro hq; simp_all; omega)
noncomputable def f52 : E := (.imp (.and (.cmp .lss (.var 3) (.fn 9 (.pr (.var 2) (.int 4)))) (.and (.not (.cmp .lss (.fn 1 (.pr (.var 2) (.fn 6 (.pr (.fn 8 (.pr (.var 3) (.int 4))) (.int 1))))) (.int 0))) (.and (.cmp .lss (.fn 1 (.pr (.var 2) (.fn 6 (.pr (.fn 8 (.pr (.var 3) (.int 4))) (.int 1))))) (.var 6)) (.and (.fn 1 (.pr (.var 5) (.fn 6 (.pr (.fn 8 (.pr (.fn 1 (.pr (.var 2) (.fn 6 (.pr (.fn 8 (.pr (.var 3) (.int 4))) (.int 1))))) (.int 2))) (.int 0))))) (.and (.not (.cmp .lss (.var 11) (.int 0))) (.and (.not (.cmp .lss (.var 11) (.var 6))) (.and (.cmp .eql (.fn 32 (.pr (.var 4) (.pr (.fn 1 (.pr (.var 2) (.fn 6 (.pr (.fn 8 (.pr (.var 3) (.int 4))) (.int 1))))) (.int 0)))) (.int (-1))) (.and (.not (.cmp .lss (.int 80) (.fn 9 (.pr (.var 2) (.int 4))))) (.and (.not (.cmp .lss (.fn 9 (.pr (.var 2) (.int 4))) (.var 3))) (.and (.not (.cmp .lss (.int 80) (.var 3))) (.and (.not (.cmp .lss (.var 3) (.int 0))) (.and (.not (.cmp .lss (.var 3) (.var 10))) (.and (.not (.cmp .lss (.var 6) (.int 1))) (.and (.not (.cmp .lss (.int 80) (.var 10))) (.and (.not (.cmp .lss (.var 7) (.int 0))) (.and (.cmp .eql (.var 6) (.var 10)) (.fn 110 (.pr (.var 4) (.pr (.var 5) (.pr (.var 8) (.pr (.var 9) (.var 10)))))))))))))))))))))) (.cmp .eql (.fn 32 (.pr (.var 4) (.pr (.fn 1 (.pr (.var 2) (.fn 6 (.pr (.fn 8 (.pr (.var 3) (.int 4))) (.int 1))))) (.int 0)))) (.fn 1 (.pr (.var 5) (.fn 6 (.pr (.fn 8 (.pr (.fn 1 (.pr (.var 2) (.fn 6 (.pr (.fn 8 (.pr (.var 3) (.int 4))) (.int 1))))) (.int 2))) (.int 1)))))))
theorem fact52 (ρ : Env) : E.B ρ f52 = true := by
  unfold f52
  simp only [sm_I_int, sm_I_fn6, sm_I_fn7, sm_I_fn8, sm_B_bool, sm_B_eql, sm_B_lss, sm_B_not, sm_B_and, sm_B_imp, sm_I_add_i64, sm_I_sub_i64, d110, d33, d32, dop, dpl, dL34, dL35, dL2, dL3, dL23, dL10, dd_int, dd_bool, d100, d101, d103, d104, d36, d39, d0, d9, List.map_nil, List.map_cons, List.map_append, List.length_nil]
  rintro ⟨p0, p1, p2, p3, p4, p5, p6, p7, p8, p9, p10, p11, p12, p13, p14, p15, p16⟩
  try generalize E.I ρ (.fn 1 (.pr (.var 2) (.fn 6 (.pr (.fn 8 (.pr (.var 3) (.int 4))) (.int 1))))) = z0 at *
  rcases rel_look p16 z0 with ⟨hn, hh⟩ | ⟨v, hn, h1, h2, h3, h4, h5, h6⟩
  all_goals simp only [hn, Option.isSome_none, Option.isSome_some, Option.getD_none, Option.getD_some, U.toI] at *
  all_goals first
    | omega
    | (exfalso; exact hh (by omega) (by omega) (by assumption))
    | (simp_all; done)
    | (simp_all; omega)
    | (intro hq; simp_all; omega)
noncomputable def f53 : E := (.imp (.and (.cmp .lss (.var 3) (.fn 9 (.pr (.var 2) (.int 4)))) (.and (.not (.cmp .lss (.fn 1 (.pr (.var 2) (.fn 6 (.pr (.fn 8 (.pr (.var 3) (.int 4))) (.int 1))))) (.int 0))) (.and (.cmp .lss (.fn 1 (.pr (.var 2) (.fn 6 (.pr (.fn 8 (.pr (.var 3) (.int 4))) (.int 1))))) (.var 6)) (.and (.fn 1 (.pr (.var 5) (.fn 6 (.pr (.fn 8 (.pr (.fn 1 (.pr (.var 2) (.fn 6 (.pr (.fn 8 (.pr (.var 3) (.int 4))) (.int 1))))) (.int 2))) (.int 0))))) (.and (.not (.cmp .lss (.var 11) (.int 0))) (.and (.not (.cmp .lss (.var 11) (.var 6))) (.and (.not (.cmp .eql (.fn 32 (.pr (.var 4) (.pr (.fn 1 (.pr (.var 2) (.fn 6 (.pr (.fn 8 (.pr (.var 3) (.int 4))) (.int 1))))) (.int 0)))) (.int (-1)))) (.and (.not (.cmp .eql (.fn 32 (.pr (.var 4) (.pr (.fn 1 (.pr (.var 2) (.fn 6 (.pr (.fn 8 (.pr (.var 3) (.int 4))) (.int 1))))) (.int 0)))) (.int 0))) (.and (.not (.cmp .lss (.int 80) (.fn 9 (.pr (.var 2) (.int 4))))) (.and (.not (.cmp .lss (.fn 9 (.pr (.var 2) (.int 4))) (.var 3))) (.and (.not (.cmp .lss (.int 80) (.var 3))) (.and (.not (.cmp .lss (.var 3) (.int 0))) (.and (.not (.cmp .lss (.var 3) (.var 10))) (.and (.not (.cmp .lss (.var 6) (.int 1))) (.and (.not (.cmp .lss (.int 80) (.var 10))) (.and (.not (.cmp .lss (.var 7) (.int 0))) (.and (.cmp .eql (.var 6) (.var 10)) (.fn 110 (.pr (.var 4) (.pr (.var 5) (.pr (.var 8) (.pr (.var 9) (.var 10))))))))))))))))))))))) (.cmp .eql (.fn 32 (.pr (.var 4) (.pr (.fn 1 (.pr (.var 2) (.fn 6 (.pr (.fn 8 (.pr (.var 3) (.int 4))) (.int 1))))) (.int 0)))) (.fn 1 (.pr (.var 5) (.fn 6 (.pr (.fn 8 (.pr (.fn 1 (.pr (.var 2) (.fn 6 (.pr (.fn 8 (.pr (.var 3) (.int 4))) (.int 1))))) (.int 2))) (.int 1)))))))
theorem fact53 (ρ : Env) : E.B ρ f53 = true := by
  unfold f53
  simp only [sm_I_int, sm_I_fn6, sm_I_fn7, sm_I_fn8, sm_B_bool, sm_B_eql, sm_B_lss, sm_B_not, sm_B_and, sm_B_imp, sm_I_add_i64, sm_I_sub_i64, d110, d33, d32, dop, dpl, dL34, dL35, dL2, dL3, dL23, dL10, dd_int, dd_bool, d100, d101, d103, d104, d36, d39, d0, d9, List.map_nil, List.map_cons, List.map_append, List.length_nil]
  rintro ⟨p0, p1, p2, p3, p4, p5, p6, p7, p8, p9, p10, p11, p12, p13, p14, p15, p16, p17⟩
  try generalize E.I ρ (.fn 1 (.pr (.var 2) (.fn 6 (.pr (.fn 8 (.pr (.var 3) (.int 4))) (.int 1))))) = z0 at *
  rcases rel_look p17 z0 with ⟨hn, hh⟩ | ⟨v, hn, h1, h2, h3, h4, h5, h6⟩
  all_goals simp only [hn, Option.isSome_none, Option.isSome_some, Option.getD_none, Option.getD_some, U.toI] at *
  all_goals first
    | omega
    | (exfalso; exact hh (by omega) (by omega) (by assumption))
    | (simp_all; done)
    | (simp_all; omega)
    | (intro hq; simp_all; omega)
noncomputable def f54 : E := (.imp (.and (.cmp .lss (.var 3) (.fn 9 (.pr (.var 2) (.int 4)))) (.and (.not (.cmp .lss (.fn 1 (.pr (.var 2) (.fn 6 (.pr (.fn 8 (.pr (.var 3) (.int 4))) (.int 1))))) (.int 0))) (.and (.cmp .lss (.fn 1 (.pr (.var 2) (.fn 6 (.pr (.fn 8 (.pr (.var 3) (.int 4))) (.int 1))))) (.var 6)) (.and (.fn 1 (.pr (.var 5) (.fn 6 (.pr (.fn 8 (.pr (.fn 1 (.pr (.var 2) (.fn 6 (.pr (.fn 8 (.pr (.var 3) (.int 4))) (.int 1))))) (.int 2))) (.int 0))))) (.and (.not (.cmp .lss (.var 11) (.int 0))) (.and (.not (.cmp .lss (.var 11) (.var 6))) (.and (.not (.cmp .eql (.fn 32 (.pr (.var 4) (.pr (.fn 1 (.pr (.var 2) (.fn 6 (.pr (.fn 8 (.pr (.var 3) (.int 4))) (.int 1))))) (.int 0)))) (.int (-1)))) (.and (.cmp .eql (.fn 32 (.pr (.var 4) (.pr (.fn 1 (.pr (.var 2) (.fn 6 (.pr (.fn 8 (.pr (.var 3) (.int 4))) (.int 1))))) (.int 0)))) (.int 0)) (.and (.not (.cmp .lss (.int 80) (.fn 9 (.pr (.var 2) (.int 4))))) (.and (.not (.cmp .lss (.fn 9 (.pr (.var 2) (.int 4))) (.var 3))) (.and (.not (.cmp .lss (.int 80) (.var 3))) (.and (.not (.cmp .lss (.var 3) (.int 0))) (.and (.not (.cmp .lss (.var 3) (.var 10))) (.and (.not (.cmp .lss (.var 6) (.int 1))) (.and (.not (.cmp .lss (.int 80) (.var 10))) (.and (.not (.cmp .lss (.var 7) (.int 0))) (.and (.cmp .eql (.var 6) (.var 10)) (.fn 110 (.pr (.var 4) (.pr (.var 5) (.pr (.var 8) (.pr (.var 9) (.var 10))))))))))))))))))))))) (.cmp .eql (.fn 32 (.pr (.var 4) (.pr (.fn 1 (.pr (.var 2) (.fn 6 (.pr (.fn 8 (.pr (.var 3) (.int 4))) (.int 1))))) (.int 0)))) (.fn 1 (.pr (.var 5) (.fn 6 (.pr (.fn 8 (.pr (.fn 1 (.pr (.var 2) (.fn 6 (.pr (.fn 8 (.pr (.var 3) (.int 4))) (.int 1))))) (.int 2))) (.int 1)))))))
theorem fact54 (ρ : Env) : E.B ρ f54 = true := by
  unfold f54
  simp only [sm_I_int, sm_I_fn6, sm_I_fn7, sm_I_fn8, sm_B_bool, sm_B_eql, sm_B_lss, sm_B_not, sm_B_and, sm_B_imp, sm_I_add_i64, sm_I_sub_i64, d110, d33, d32, dop, dpl, dL34, dL35, dL2, dL3, dL23, dL10, dd_int, dd_bool, d100, d101, d103, d104, d36, d39, d0, d9, List.map_nil, List.map_cons, List.map_append, List.length_nil]
  rintro ⟨p0, p1, p2, p3, p4, p5, p6, p7, p8, p9, p10, p11, p12, p13, p14, p15, p16, p17⟩
  try generalize E.I ρ (.fn 1 (.pr (.var 2) (.fn 6 (.pr (.fn 8 (.pr (.var 3) (.int 4))) (.int 1))))) = z0 at *
  rcases rel_look p17 z0 with ⟨hn, hh⟩ | ⟨v, hn, h1, h2, h3, h4, h5, h6⟩
  all_goals simp only [hn, Option.isSome_none, Option.isSome_some, Option.getD_none, Option.getD_some, U.toI] at *
  all_goals first
    | omega
    | (exfalso; exact hh (by omega) (by omega) (by assumption))
    | (simp_all; done)
    | (simp_all; omega)
    | (intro hq; simp_all; omega)
noncomputable def f55 : E := (.imp (.and (.cmp .lss (.var 3) (.fn 9 (.pr (.var 2) (.int 4)))) (.and (.not (.cmp .lss (.fn 1 (.pr (.var 2) (.fn 6 (.pr (.fn 8 (.pr (.var 3) (.int 4))) (.int 1))))) (.int 0))) (.and (.cmp .lss (.fn 1 (.pr (.var 2) (.fn 6 (.pr (.fn 8 (.pr (.var 3) (.int 4))) (.int 1))))) (.var 6)) (.and (.fn 1 (.pr (.var 5) (.fn 6 (.pr (.fn 8 (.pr (.fn 1 (.pr (.var 2) (.fn 6 (.pr (.fn 8 (.pr (.var 3) (.int 4))) (.int 1))))) (.int 2))) (.int 0))))) (.and (.not (.cmp .lss (.var 11) (.int 0))) (.and (.not (.cmp .lss (.var 11) (.var 6))) (.and (.cmp .eql (.fn 32 (.pr (.var 4) (.pr (.fn 1 (.pr (.var 2) (.fn 6 (.pr (.fn 8 (.pr (.var 3) (.int 4))) (.int 1))))) (.int 0)))) (.int (-1))) (.and (.not (.cmp .lss (.int 80) (.fn 9 (.pr (.var 2) (.int 4))))) (.and (.not (.cmp .lss (.fn 9 (.pr (.var 2) (.int 4))) (.var 3))) (.and (.not (.cmp .lss (.int 80) (.var 3))) (.and (.not (.cmp .lss (.var 3) (.int 0))) (.and (.not (.cmp .lss (.var 3) (.var 10))) (.and (.not (.cmp .lss (.var 6) (.int 1))) (.and (.not (.cmp .lss (.int 80) (.var 10))) (.and (.not (.cmp .lss (.var 7) (.int 0))) (.and (.cmp .eql (.var 6) (.var 10)) (.fn 110 (.pr (.var 4) (.pr (.var 5) (.pr (.var 8) (.pr (.var 9) (.var 10)))))))))))))))))))))) (.fn 110 (.pr (.fn 35 (.pr (.var 4) (.fn 1 (.pr (.var 2) (.fn 6 (.pr (.fn 8 (.pr (.var 3) (.int 4))) (.int 1))))))) (.pr (.fn 2 (.pr (.var 5) (.pr (.fn 6 (.pr (.fn 8 (.pr (.fn 1 (.pr (.var 2) (.fn 6 (.pr (.fn 8 (.pr (.var 3) (.int 4))) (.int 1))))) (.int 2))) (.int 0))) (.bool false)))) (.pr (.var 8) (.pr (.var 9) (.var 10)))))))
theorem fact55 (ρ : Env) : E.B ρ f55 = true := by
  unfold f55
  simp only [sm_I_int, sm_I_fn6, sm_I_fn7, sm_I_fn8, sm_B_bool, sm_B_eql, sm_B_lss, sm_B_not, sm_B_and, sm_B_imp, sm_I_add_i64, sm_I_sub_i64, d110, d33, d32, dop, dpl, dL34, dL35, dL2, dL3, dL23, dL10, dd_int, dd_bool, d100, d101, d103, d104, d36, d39, d0, d9, List.map_nil, List.map_cons, List.map_append, List.length_nil]
  rintro ⟨p0, p1, p2, p3, p4, p5, p6, p7, p8, p9, p10, p11, p12, p13, p14, p15, p16⟩
  try generalize E.I ρ (.fn 1 (.pr (.var 2) (.fn 6 (.pr (.fn 8 (.pr (.var 3) (.int 4))) (.int 1))))) = z0 at *
  rcases rel_look p16 z0 with ⟨hn, hh⟩ | ⟨v, hn, h1, h2, h3, h4, h5, h6⟩
  · exfalso; exact hh (by omega) (by omega) (by assumption)
  · simp only [hn, Option.isSome_some, Option.getD_some] at *
    exact rel_close p16 h1 h2 h3 (by split <;> omega) (by split <;> omega)
noncomputable def f56 : E := (.imp (.and (.cmp .lss (.var 3) (.fn 9 (.pr (.var 2) (.int 4)))) (.and (.not (.cmp .lss (.fn 1 (.pr (.var 2) (.fn 6 (.pr (.fn 8 (.pr (.var 3) (.int 4))) (.int 1))))) (.int 0))) (.and (.cmp .lss (.fn 1 (.pr (.var 2) (.fn 6 (.pr (.fn 8 (.pr (.var 3) (.int 4))) (.int 1))))) (.var 6)) (.and (.fn 1 (.pr (.var 5) (.fn 6 (.pr (.fn 8 (.pr (.fn 1 (.pr (.var 2) (.fn 6 (.pr (.fn 8 (.pr (.var 3) (.int 4))) (.int 1))))) (.int 2))) (.int 0))))) (.and (.not (.cmp .lss (.var 11) (.int 0))) (.and (.not (.cmp .lss (.var 11) (.var 6))) (.and (.not (.cmp .eql (.fn 32 (.pr (.var 4) (.pr (.fn 1 (.pr (.var 2) (.fn 6 (.pr (.fn 8 (.pr (.var 3) (.int 4))) (.int 1))))) (.int 0)))) (.int (-1)))) (.and (.not (.cmp .eql (.fn 32 (.pr (.var 4) (.pr (.fn 1 (.pr (.var 2) (.fn 6 (.pr (.fn 8 (.pr (.var 3) (.int 4))) (.int 1))))) (.int 0)))) (.int 0))) (.and (.not (.cmp .lss (.int 80) (.fn 9 (.pr (.var 2) (.int 4))))) (.and (.not (.cmp .lss (.fn 9 (.pr (.var 2) (.int 4))) (.var 3))) (.and (.not (.cmp .lss (.int 80) (.var 3))) (.and (.not (.cmp .lss (.var 3) (.int 0))) (.and (.not (.cmp .lss (.var 3) (.var 10))) (.and (.not (.cmp .lss (.var 6) (.int 1))) (.and (.not (.cmp .lss (.int 80) (.var 10))) (.and (.not (.cmp .lss (.var 7) (.int 0))) (.and (.cmp .eql (.var 6) (.var 10)) (.fn 110 (.pr (.var 4) (.pr (.var 5) (.pr (.var 8) (.pr (.var 9) (.var 10))))))))))))))))))))))) (.fn 110 (.pr (.fn 35 (.pr (.var 4) (.fn 1 (.pr (.var 2) (.fn 6 (.pr (.fn 8 (.pr (.var 3) (.int 4))) (.int 1))))))) (.pr (.fn 2 (.pr (.var 5) (.pr (.fn 6 (.pr (.fn 8 (.pr (.fn 1 (.pr (.var 2) (.fn 6 (.pr (.fn 8 (.pr (.var 3) (.int 4))) (.int 1))))) (.int 2))) (.int 0))) (.bool false)))) (.pr (.var 8) (.pr (.int (-1)) (.var 10)))))))
theorem fact56 (ρ : Env) : E.B ρ f56 = true := by
  unfold f56
  simp only [sm_I_int, sm_I_fn6, sm_I_fn7, sm_I_fn8, sm_B_bool, sm_B_eql, sm_B_lss, sm_B_not, sm_B_and, sm_B_imp, sm_I_add_i64, sm_I_sub_i64, d110, d33, d32, dop, dpl, dL34, dL35, dL2, dL3, dL23, dL10, dd_int, dd_bool, d100, d101, d103, d104, d36, d39, d0, d9, List.map_nil, List.map_cons, List.map_append, List.length_nil]
  rintro ⟨p0, p1, p2, p3, p4, p5, p6, p7, p8, p9, p10, p11, p12, p13, p14, p15, p16, p17⟩
  try generalize E.I ρ (.fn 1 (.pr (.var 2) (.fn 6 (.pr (.fn 8 (.pr (.var 3) (.int 4))) (.int 1))))) = z0 at *
  rcases rel_look p17 z0 with ⟨hn, hh⟩ | ⟨v, hn, h1, h2, h3, h4, h5, h6⟩
  · exfalso; exact hh (by omega) (by omega) (by assumption)
  · simp only [hn, Option.isSome_some, Option.getD_some] at *
    exact rel_close p17 h1 h2 h3 (by split <;> omega) (by split <;> omega)
noncomputable def f57 : E := (.imp (.and (.cmp .lss (.var 3) (.fn 9 (.pr (.var 2) (.int 4)))) (.and (.not (.cmp .lss (.fn 1 (.pr (.var 2) (.fn 6 (.pr (.fn 8 (.pr (.var 3) (.int 4))) (.int 1))))) (.int 0))) (.and (.cmp .lss (.fn 1 (.pr (.var 2) (.fn 6 (.pr (.fn 8 (.pr (.var 3) (.int 4))) (.int 1))))) (.var 6)) (.and (.fn 1 (.pr (.var 5) (.fn 6 (.pr (.fn 8 (.pr (.fn 1 (.pr (.var 2) (.fn 6 (.pr (.fn 8 (.pr (.var 3) (.int 4))) (.int 1))))) (.int 2))) (.int 0))))) (.and (.not (.cmp .lss (.var 11) (.int 0))) (.and (.not (.cmp .lss (.var 11) (.var 6))) (.and (.not (.cmp .eql (.fn 32 (.pr (.var 4) (.pr (.fn 1 (.pr (.var 2) (.fn 6 (.pr (.fn 8 (.pr (.var 3) (.int 4))) (.int 1))))) (.int 0)))) (.int (-1)))) (.and (.cmp .eql (.fn 32 (.pr (.var 4) (.pr (.fn 1 (.pr (.var 2) (.fn 6 (.pr (.fn 8 (.pr (.var 3) (.int 4))) (.int 1))))) (.int 0)))) (.int 0)) (.and (.not (.cmp .lss (.int 80) (.fn 9 (.pr (.var 2) (.int 4))))) (.and (.not (.cmp .lss (.fn 9 (.pr (.var 2) (.int 4))) (.var 3))) (.and (.not (.cmp .lss (.int 80) (.var 3))) (.and (.not (.cmp .lss (.var 3) (.int 0))) (.and (.not (.cmp .lss (.var 3) (.var 10))) (.and (.not (.cmp .lss (.var 6) (.int 1))) (.and (.not (.cmp .lss (.int 80) (.var 10))) (.and (.not (.cmp .lss (.var 7) (.int 0))) (.and (.cmp .eql (.var 6) (.var 10)) (.fn 110 (.pr (.var 4) (.pr (.var 5) (.pr (.var 8) (.pr (.var 9) (.var 10))))))))))))))))))))))) (.fn 110 (.pr (.fn 35 (.pr (.var 4) (.fn 1 (.pr (.var 2) (.fn 6 (.pr (.fn 8 (.pr (.var 3) (.int 4))) (.int 1))))))) (.pr (.fn 2 (.pr (.var 5) (.pr (.fn 6 (.pr (.fn 8 (.pr (.fn 1 (.pr (.var 2) (.fn 6 (.pr (.fn 8 (.pr (.var 3) (.int 4))) (.int 1))))) (.int 2))) (.int 0))) (.bool false)))) (.pr (.int (-1)) (.pr (.var 9) (.var 10)))))))
theorem fact57 (ρ : Env) : E.B ρ f57 = true := by
  unfold f57
  simp only [sm_I_int, sm_I_fn6, sm_I_fn7, sm_I_fn8, sm_B_bool, sm_B_eql, sm_B_lss, sm_B_not, sm_B_and, sm_B_imp, sm_I_add_i64, sm_I_sub_i64, d110, d33, d32, dop, dpl, dL34, dL35, dL2, dL3, dL23, dL10, dd_int, dd_bool, d100, d101, d103, d104, d36, d39, d0, d9, List.map_nil, List.map_cons, List.map_append, List.length_nil]
  rintro ⟨p0, p1, p2, p3, p4, p5, p6, p7, p8, p9, p10, p11, p12, p13, p14, p15, p16, p17⟩
  try generalize E.I ρ (.fn 1 (.pr (.var 2) (.fn 6 (.pr (.fn 8 (.pr (.var 3) (.int 4))) (.int 1))))) = z0 at *
  rcases rel_look p17 z0 with ⟨hn, hh⟩ | ⟨v, hn, h1, h2, h3, h4, h5, h6⟩
  · exfalso; exact hh (by omega) (by omega) (by assumption)
  · simp only [hn, Option.isSome_some, Option.getD_some] at *
    exact rel_close p17 h1 h2 h3 (by split <;> omega) (by split <;> omega)
noncomputable def facts : List E := [f0, f1, f2, f3, f4, f5, f6, f7, f8, f9, f10, f11, f12, f13, f14, f15, f16, f17, f18, f19, f20, f21, f22, f23, f24, f25, f26, f27, f28, f29, f30, f31, f32, f33, f34, f35, f36, f37, f38, f39, f40, f41, f42, f43, f44, f45, f46, f47, f48, f49, f50, f51, f52, f53, f54, f55, f56, f57]
theorem facts_ok : ∀ e ∈ facts, ∀ ρ : Env, E.B ρ e = true := (all_cons fact0 (all_cons fact1 (all_cons fact2 (all_cons fact3 (all_cons fact4 (all_cons fact5 (all_cons fact6 (all_cons fact7 (all_cons fact8 (all_cons fact9 (all_cons fact10 (all_cons fact11 (all_cons fact12 (all_cons fact13 (all_cons fact14 (all_cons fact15 (all_cons fact16 (all_cons fact17 (all_cons fact18 (all_cons fact19 (all_cons fact20 (all_cons fact21 (all_cons fact22 (all_cons fact23 (all_cons fact24 (all_cons fact25 (all_cons fact26 (all_cons fact27 (all_cons fact28 (all_cons fact29 (all_cons fact30 (all_cons fact31 (all_cons fact32 (all_cons fact33 (all_cons fact34 (all_cons fact35 (all_cons fact36 (all_cons fact37 (all_cons fact38 (all_cons fact39 (all_cons fact40 (all_cons fact41 (all_cons fact42 (all_cons fact43 (all_cons fact44 (all_cons fact45 (all_cons fact46 (all_cons fact47 (all_cons fact48 (all_cons fact49 (all_cons fact50 (all_cons fact51 (all_cons fact52 (all_cons fact53 (all_cons fact54 (all_cons fact55 (all_cons fact56 (all_cons fact57 all_nil))))))))))))))))))))))))))))))))))))))))))))))))))))))))))
end l0
set_option maxRecDepth 100000 in
theorem body0_0_0 : BodyOk Try.prog (ann1 (some y1)) y1 (t0).less (t0).tmps { (t0).st with pc := (t0).st.pc } :=
  body_of_check good (facts := l0.facts) l0.facts_ok (anns := []) (plainAnns_ok _ (by kernel_rfl)) (nats := natl6) natl6_ok (n := 3000) (by kernel_rfl) (by kernel_rfl)
theorem body0_0 : BodyOk Try.prog (ann1 (some y1)) y1 (t0).less (t0).tmps (t0).st := body0_0_0
set_option maxRecDepth 100000 in
theorem body0_1_0 : BodyOk Try.prog (ann1 (some y1)) y1 (t1).less (t1).tmps { (t1).st with pc := (what 0) :: (t1).st.pc } :=
  body_of_check good (facts := l0.facts) l0.facts_ok (anns := []) (plainAnns_ok _ (by kernel_rfl)) (nats := natl6) natl6_ok (n := 3000) (by kernel_rfl) (by kernel_rfl)
set_option maxRecDepth 100000 in
theorem body0_1_1 : BodyOk Try.prog (ann1 (some y1)) y1 (t1).less (t1).tmps { (t1).st with pc := (what 1) :: .not (what 0) :: (t1).st.pc } :=
  body_of_check good (facts := l0.facts) l0.facts_ok (anns := []) (plainAnns_ok _ (by kernel_rfl)) (nats := natl6) natl6_ok (n := 3000) (by kernel_rfl) (by kernel_rfl)
set_option maxRecDepth 100000 in
theorem body0_1_2 : BodyOk Try.prog (ann1 (some y1)) y1 (t1).less (t1).tmps { (t1).st with pc := (what 2) :: .not (what 1) :: .not (what 0) :: (t1).st.pc } :=
  body_of_check good (facts := l0.facts) l0.facts_ok (anns := []) (plainAnns_ok _ (by kernel_rfl)) (nats := natl6) natl6_ok (n := 3000) (by kernel_rfl) (by kernel_rfl)
set_option maxRecDepth 100000 in
theorem body0_1_3 : BodyOk Try.prog (ann1 (some y1)) y1 (t1).less (t1).tmps { (t1).st with pc := (what 3) :: .not (what 2) :: .not (what 1) :: .not (what 0) :: (t1).st.pc } :=
  body_of_check good (facts := l0.facts) l0.facts_ok (anns := []) (plainAnns_ok _ (by kernel_rfl)) (nats := natl6) natl6_ok (n := 3000) (by kernel_rfl) (by kernel_rfl)
set_option maxRecDepth 100000 in
theorem body0_1_4 : BodyOk Try.prog (ann1 (some y1)) y1 (t1).less (t1).tmps { (t1).st with pc := .not (what 3) :: .not (what 2) :: .not (what 1) :: .not (what 0) :: (t1).st.pc } :=
  body_of_check good (facts := l0.facts) l0.facts_ok (anns := []) (plainAnns_ok _ (by kernel_rfl)) (nats := natl6) natl6_ok (n := 3000) (by kernel_rfl) (by kernel_rfl)
theorem body0_1 : BodyOk Try.prog (ann1 (some y1)) y1 (t1).less (t1).tmps (t1).st := (BodyOk.cases (what 0) body0_1_0 (BodyOk.cases (what 1) body0_1_1 (BodyOk.cases (what 2) body0_1_2 (BodyOk.cases (what 3) body0_1_3 body0_1_4))))
theorem loop0 : LoopOk Try.prog (ann1 (some y1)) := loop_of_bodies rfl (by kernel_rfl) (by
  intro τ hτ
  rcases List.mem_cons.1 hτ with rfl | hτ
  · exact body0_0
  rcases List.mem_cons.1 hτ with rfl | hτ
  · exact body0_1
  cases hτ)
noncomputable def annsM : List Ann := [ann1 (some y1)]
theorem annsM_ok : ∀ x ∈ annsM, LoopOk Try.prog x := by
  intro x hx
  rcases List.mem_cons.1 hx with rfl | hx
  · exact loop0
  cases hx
namespace m
noncomputable def facts : List E := []
theorem facts_ok : ∀ e ∈ facts, ∀ ρ : Env, E.B ρ e = true := all_nil
end m
set_option maxRecDepth 100000 in
theorem reckoned : withTab Try.prog (fun tb => checkAll outTrue (run Try.prog (tb.plus m.facts annsM natl6) 3000 (.call 6 args) .nil (varSt 3 pc0) SX.one)) = true := by kernel_rfl

set_option maxRecDepth 100000 in
theorem walk {H : Type} (W : World) (base : Nat) (enc : TypeId × Value → H) (v0 : Value) (d0 : DataW H) (p0 : List MemPlace) (v1 : Value) (d1 : DataW H) (p1 : List MemPlace) (v2 : Value) (d2 : DataW H) (p2 : List MemPlace)
    (o0 : Value.okWide Try.prog W .any base 9 v0) (h0 : DataW.Trod enc Try.prog W 0 (fun _ => true) true 9 v0 d0 p0)
    (o1 : Value.okWide Try.prog W .any base 9 v1) (h1 : DataW.Trod enc Try.prog W 0 (fun _ => true) true 9 v1 d1 p1)
    (o2 : Value.okWide Try.prog W .any base 40 v2) (h2 : DataW.Trod enc Try.prog W 0 (fun _ => true) true 40 v2 d2 p2) :
    Calls Try.prog 6 #[v0, v1, v2] W fun e W' => e = .returned (.bool true) ∧ Below W.heap.size W W' := by
  obtain ⟨x0, rfl, _, _, w0⟩ := open_str Try.underlying9 o0 h0
  obtain ⟨x1, rfl, _, _, w1⟩ := open_str Try.underlying9 o1 h1
  obtain ⟨x2, rfl, k2, w2⟩ := open_slc (n := 9) (ks := [.int .i64, .int .i64, .int .i64, .str]) Try.underlying40 (by kernel_rfl) o2 h2
  have q2 := typ_slc w2
  refine true_of_check2 good (facts := m.facts) m.facts_ok (anns := annsM) annsM_ok natl6_ok (vs := [.str x0, .str x1, x2]) (pc := pc0) reckoned ?_ W ⟨trivial, ⟨trivial, ⟨k2, trivial⟩⟩⟩
  unfold pc0
  try simp only [u64R, i64R, List.cons_append, List.nil_append]
  repeat' (refine pc_cons ?_ ?_)
  all_goals first
    | exact pc_nil
    | (first | exact q2 | skip; done)
    | (simp only [eLe, eLt, eV, Env.of, sm_I_int, sm_I_var, sm_B_lss, sm_B_not, getD_cons_zero, getD_cons_succ, toI_int]; omega)

set_option maxRecDepth 100000 in
theorem lifted (os : Os) (started : os.Started) (H : Type) (enc : TypeId × Value → H) :
    ReturnsInHanded {} Try.checked os 6 .any (Rows.sessionPlaysSpec.pre6 enc Try.prog Try.f6 Rows.sessionPlaysRow.domain false) (Rows.sessionPlaysSpec.post enc Try.prog Try.f6 false true false false) := by
  refine returnsInHanded_of_change (C := Try.checked) own started (by kernel_rfl) Try.func6
    (ChangeSpec.witness6 (enc := enc) (C := Try.checked) false ⟨#[], #[.string ByteArray.empty, .string ByteArray.empty, .slice none 0 0], []⟩ 8 (by kernel_rfl) (by kernel_rfl) (by kernel_rfl) (by kernel_rfl)) ?_
  intro W base args ds gs before hval0 hW hcnd _
  have hval : ∀ (j : Nat) t v, Try.f6.params[j]? = some t → args[j]? = some v → Value.okWide Try.prog W .any base t v := hval0
  have hW' := hW
  obtain ⟨p, q, hA0, hV, rfl, hfz, hnd⟩ := hW
  have hA : DataW.TrodAll enc Try.prog W 0 (fun _ => true) true Try.f6.params.toList args.toList ds p := hA0
  rw [Try.params6] at hA hval
  obtain ⟨v0, vs0, d0, ds0, p0, q0, hargs, rfl, rfl, h0, r0⟩ := trodAll_cons hA
  obtain ⟨v1, vs1, d1, ds1, p1, q1, rfl, rfl, rfl, h1, r1⟩ := trodAll_cons r0
  obtain ⟨v2, vs2, d2, ds2, p2, q2, rfl, rfl, rfl, h2, r2⟩ := trodAll_cons r1
  obtain ⟨rfl, rfl, rfl⟩ := trodAll_nil r2
  obtain rfl : args = #[v0, v1, v2] := by cases args; simp_all
  obtain ⟨rfl, rfl⟩ := trodVars_none hV
  have lt0 : ∀ x ∈ p0, x.block < W.heap.size := by obtain ⟨m, hm⟩ := h0; exact DataW.trod_lt m _ _ _ hm
  have lt1 : ∀ x ∈ p1, x.block < W.heap.size := by obtain ⟨m, hm⟩ := h1; exact DataW.trod_lt m _ _ _ hm
  have lt2 : ∀ x ∈ p2, x.block < W.heap.size := by obtain ⟨m, hm⟩ := h2; exact DataW.trod_lt m _ _ _ hm
  have o0 := hval 0 9 v0 rfl rfl
  have o1 := hval 1 9 v1 rfl rfl
  have o2 := hval 2 40 v2 rfl rfl
  clear hA0 hval0
  refine (walk W base enc v0 d0 p0 v1 d1 p1 v2 d2 p2 o0 h0 o1 h1 o2 h2).mono fun e W' ⟨he, bel⟩ => ?_
  subst he
  exact ⟨_, rfl, _, _, _, [], _, [], hW', trodAll_mk1 (shut_bool Try.underlying4 _), (trodAll_cons_mk (Below.trod laidOut (by kernel_rfl) (of_decide_eq_true (by kernel_rfl)) h0 bel lt0) (trodAll_cons_mk (Below.trod laidOut (by kernel_rfl) (of_decide_eq_true (by kernel_rfl)) h1 bel lt1) (trodAll_cons_mk (Below.trod laidOut (by kernel_rfl) (of_decide_eq_true (by kernel_rfl)) h2 bel lt2) trodAll_mk0))), rfl, bel.frame _, fun h => by cases h⟩

theorem over : Rows.sessionPlaysRow.holds Try.pinned (OpenSpec.ofChange Rows.sessionPlaysSpec) :=
  OpenClaim.holds_of_wide 6 Try.f6 rfl rfl rfl rfl rfl rfl rfl ⟨rfl, rfl, rfl, rfl, rfl⟩ rfl rfl rfl rfl rfl (by kernel_rfl) Try.func6 (by kernel_rfl)
    (of_decide_eq_true (by kernel_rfl)) (by unfold Func.isWrapper; first | (rw [if_pos (by decide +kernel)]; kernel_rfl) | (rw [if_neg (by decide +kernel)]; exact ⟨rfl, rfl⟩))
    (fun os started H enc _ => lifted os started H enc)

theorem proved : Rows.SessionPlaysSaid := over

end Go.Proofs.Ytphcdmgmeiefhaa.sessionPlays
