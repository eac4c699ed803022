/-
  MetaFulls: one reckoning by the kernel, with what is known at the loops' heads, contracts of functions, and facts of arithmetic.
-/
import Derived.Test.YtmngplmblanhdaaRows
import Derived.Test.YtmngplmblanhdaaSXd
import Derived.WalkKit
import Derived.ProofKit
import Derived.OpenShut
import Derived.ChangeOld
import Derived.Below
import Derived.KernelRfl
import Derived.Lib.SmallJoins
import Derived.Test.YtmngplmblanhdaaTheory
import Derived.Test.YtmngplmblanhdaaMetaFullsParta
namespace Go.Proofs.Ytmngplmblanhdaa.metaFulls
open Go.ChangeShapes Go.WideShapes Go.ChangeAt Go.RowKit
open Go.SX
set_option linter.unusedVariables false
set_option linter.unusedSimpArgs false
set_option maxRecDepth 100000
namespace p1
noncomputable def f0 : E := (.imp (.and (.fn 100 (.pr (.var 0) (.pr (.var 1) (.pr (.var 1) (.int 0))))) (.and (.cmp .lss (.var 2) (.var 1)) (.and (.not (.cmp .lss (.int 50001) (.var 1))) (.and (.not (.cmp .lss (.var 1) (.int 1))) (.and (.not (.cmp .lss (.var 1) (.var 2))) (.and (.not (.cmp .lss (.var 2) (.int 0))) (.and (.not (.cmp .lss (.int 50001) (.var 1))) (.not (.cmp .lss (.var 1) (.int 1)))))))))) (.not (.cmp .lss (.fn 1 (.pr (.var 0) (.fn 6 (.pr (.fn 8 (.pr (.var 2) (.int 3))) (.int 0))))) (.int 0))))
theorem fact0 (ρ : Env) : E.B ρ f0 = true := by
  unfold f0
  rw [sm_B_imp]
  simp only [sm_B_and]
  rintro ⟨p0, p1, p2, p3, p4, p5, p6, p7⟩
  have g0 := rows_get p0 (.var 2)
  clear p0
  simp only [sm_I_int, sm_I_fn6, sm_I_fn7, sm_I_fn8, sm_B_bool, sm_B_eql, sm_B_lss, sm_B_not, sm_B_and, sm_B_imp, sm_B_iff, sm_I_add_i64, sm_I_sub_i64, sm_I_mul_i64, sm_I_rem, sm_I_wr, sm_I_mx, sm_I_mn] at *
  try generalize E.I ρ (.var 2) = a0 at *
  try generalize E.I ρ (.var 1) = a1 at *
  try generalize E.I ρ (.fn 1 (.pr (.var 0) (.fn 6 (.pr (.fn 8 (.pr (.var 2) (.int 3))) (.int 0))))) = a2 at *
  omega
noncomputable def f1 : E := (.imp (.and (.fn 100 (.pr (.var 0) (.pr (.var 1) (.pr (.var 1) (.int 0))))) (.and (.cmp .lss (.var 2) (.var 1)) (.and (.not (.cmp .lss (.fn 1 (.pr (.var 0) (.fn 6 (.pr (.fn 8 (.pr (.var 2) (.int 3))) (.int 0))))) (.int 0))) (.and (.cmp .lss (.fn 1 (.pr (.var 0) (.fn 6 (.pr (.fn 8 (.pr (.var 2) (.int 3))) (.int 0))))) (.int 2)) (.and (.not (.cmp .lss (.int 50001) (.var 1))) (.and (.not (.cmp .lss (.var 1) (.int 1))) (.and (.not (.cmp .lss (.var 1) (.var 2))) (.and (.not (.cmp .lss (.var 2) (.int 0))) (.and (.not (.cmp .lss (.int 50001) (.var 1))) (.not (.cmp .lss (.var 1) (.int 1)))))))))))) (.not (.cmp .lss (.fn 1 (.pr (.var 0) (.fn 6 (.pr (.fn 8 (.pr (.var 2) (.int 3))) (.int 1))))) (.int 0))))
theorem fact1 (ρ : Env) : E.B ρ f1 = true := by
  unfold f1
  rw [sm_B_imp]
  simp only [sm_B_and]
  rintro ⟨p0, p1, p2, p3, p4, p5, p6, p7, p8, p9⟩
  have g0 := rows_get p0 (.var 2)
  clear p0
  simp only [sm_I_int, sm_I_fn6, sm_I_fn7, sm_I_fn8, sm_B_bool, sm_B_eql, sm_B_lss, sm_B_not, sm_B_and, sm_B_imp, sm_B_iff, sm_I_add_i64, sm_I_sub_i64, sm_I_mul_i64, sm_I_rem, sm_I_wr, sm_I_mx, sm_I_mn] at *
  try generalize E.I ρ (.var 2) = a0 at *
  try generalize E.I ρ (.var 1) = a1 at *
  try generalize E.I ρ (.fn 1 (.pr (.var 0) (.fn 6 (.pr (.fn 8 (.pr (.var 2) (.int 3))) (.int 0))))) = a2 at *
  try generalize E.I ρ (.fn 1 (.pr (.var 0) (.fn 6 (.pr (.fn 8 (.pr (.var 2) (.int 3))) (.int 1))))) = a3 at *
  omega
noncomputable def f2 : E := (.imp (.and (.fn 100 (.pr (.var 0) (.pr (.var 1) (.pr (.var 1) (.int 0))))) (.and (.cmp .lss (.var 2) (.var 1)) (.and (.not (.cmp .lss (.fn 1 (.pr (.var 0) (.fn 6 (.pr (.fn 8 (.pr (.var 2) (.int 3))) (.int 0))))) (.int 0))) (.and (.cmp .lss (.fn 1 (.pr (.var 0) (.fn 6 (.pr (.fn 8 (.pr (.var 2) (.int 3))) (.int 0))))) (.int 2)) (.and (.not (.cmp .lss (.fn 1 (.pr (.var 0) (.fn 6 (.pr (.fn 8 (.pr (.var 2) (.int 3))) (.int 1))))) (.int 0))) (.and (.cmp .lss (.fn 1 (.pr (.var 0) (.fn 6 (.pr (.fn 8 (.pr (.var 2) (.int 3))) (.int 1))))) (.int 2)) (.and (.not (.cmp .eql (.fn 1 (.pr (.var 0) (.fn 6 (.pr (.fn 8 (.pr (.var 2) (.int 3))) (.int 0))))) (.fn 1 (.pr (.var 0) (.fn 6 (.pr (.fn 8 (.pr (.var 2) (.int 3))) (.int 1))))))) (.and (.not (.cmp .lss (.fn 1 (.pr (.var 0) (.fn 6 (.pr (.fn 8 (.pr (.var 2) (.int 3))) (.int 2))))) (.int 1))) (.and (.not (.cmp .lss (.int 50001) (.var 1))) (.and (.not (.cmp .lss (.var 1) (.int 1))) (.and (.not (.cmp .lss (.var 1) (.var 2))) (.and (.not (.cmp .lss (.var 2) (.int 0))) (.and (.not (.cmp .lss (.int 50001) (.var 1))) (.not (.cmp .lss (.var 1) (.int 1)))))))))))))))) (.not (.cmp .lss (.int 3) (.fn 1 (.pr (.var 0) (.fn 6 (.pr (.fn 8 (.pr (.var 2) (.int 3))) (.int 2))))))))
theorem fact2 (ρ : Env) : E.B ρ f2 = true := by
  unfold f2
  rw [sm_B_imp]
  simp only [sm_B_and]
  rintro ⟨p0, p1, p2, p3, p4, p5, p6, p7, p8, p9, p10, p11, p12, p13⟩
  have g0 := rows_get p0 (.var 2)
  clear p0
  simp only [sm_I_int, sm_I_fn6, sm_I_fn7, sm_I_fn8, sm_B_bool, sm_B_eql, sm_B_lss, sm_B_not, sm_B_and, sm_B_imp, sm_B_iff, sm_I_add_i64, sm_I_sub_i64, sm_I_mul_i64, sm_I_rem, sm_I_wr, sm_I_mx, sm_I_mn] at *
  try generalize E.I ρ (.var 2) = a0 at *
  try generalize E.I ρ (.var 1) = a1 at *
  try generalize E.I ρ (.fn 1 (.pr (.var 0) (.fn 6 (.pr (.fn 8 (.pr (.var 2) (.int 3))) (.int 0))))) = a2 at *
  try generalize E.I ρ (.fn 1 (.pr (.var 0) (.fn 6 (.pr (.fn 8 (.pr (.var 2) (.int 3))) (.int 1))))) = a3 at *
  try generalize E.I ρ (.fn 1 (.pr (.var 0) (.fn 6 (.pr (.fn 8 (.pr (.var 2) (.int 3))) (.int 2))))) = a4 at *
  omega
noncomputable def f3 : E := (.imp (.and (.not (.cmp .lss (.int 50001) (.var 1))) (.and (.not (.cmp .lss (.var 1) (.int 1))) (.and (.not (.cmp .lss (.var 1) (.var 2))) (.and (.not (.cmp .lss (.var 2) (.int 0))) (.and (.not (.cmp .lss (.int 50001) (.var 1))) (.not (.cmp .lss (.var 1) (.int 1)))))))) (.not (.cmp .lss (.ar .add .i64 (.var 2) (.int 1)) (.int 0))))
theorem fact3 (ρ : Env) : E.B ρ f3 = true := by
  unfold f3
  rw [sm_B_imp]
  simp only [sm_B_and]
  rintro ⟨p0, p1, p2, p3, p4, p5⟩
  simp only [sm_I_int, sm_I_fn6, sm_I_fn7, sm_I_fn8, sm_B_bool, sm_B_eql, sm_B_lss, sm_B_not, sm_B_and, sm_B_imp, sm_B_iff, sm_I_add_i64, sm_I_sub_i64, sm_I_mul_i64, sm_I_rem, sm_I_wr, sm_I_mx, sm_I_mn] at *
  try generalize E.I ρ (.var 1) = a0 at *
  try generalize E.I ρ (.var 2) = a1 at *
  obtain ⟨a2, ea2, qa2⟩ := cs_i64 (a1 + (1))
  try simp only [ea2] at *
  omega
noncomputable def f4 : E := (.imp (.and (.fn 100 (.pr (.var 0) (.pr (.var 1) (.pr (.var 1) (.int 0))))) (.and (.cmp .lss (.var 2) (.var 1)) (.and (.not (.cmp .lss (.fn 1 (.pr (.var 0) (.fn 6 (.pr (.fn 8 (.pr (.var 2) (.int 3))) (.int 0))))) (.int 0))) (.and (.cmp .lss (.fn 1 (.pr (.var 0) (.fn 6 (.pr (.fn 8 (.pr (.var 2) (.int 3))) (.int 0))))) (.int 2)) (.and (.not (.cmp .lss (.fn 1 (.pr (.var 0) (.fn 6 (.pr (.fn 8 (.pr (.var 2) (.int 3))) (.int 1))))) (.int 0))) (.and (.cmp .lss (.fn 1 (.pr (.var 0) (.fn 6 (.pr (.fn 8 (.pr (.var 2) (.int 3))) (.int 1))))) (.int 2)) (.and (.not (.cmp .eql (.fn 1 (.pr (.var 0) (.fn 6 (.pr (.fn 8 (.pr (.var 2) (.int 3))) (.int 0))))) (.fn 1 (.pr (.var 0) (.fn 6 (.pr (.fn 8 (.pr (.var 2) (.int 3))) (.int 1))))))) (.and (.not (.cmp .lss (.int 50001) (.var 1))) (.and (.not (.cmp .lss (.var 1) (.int 1))) (.and (.not (.cmp .lss (.var 1) (.var 2))) (.and (.not (.cmp .lss (.var 2) (.int 0))) (.and (.not (.cmp .lss (.int 50001) (.var 1))) (.not (.cmp .lss (.var 1) (.int 1))))))))))))))) (.not (.cmp .lss (.fn 1 (.pr (.var 0) (.fn 6 (.pr (.fn 8 (.pr (.var 2) (.int 3))) (.int 2))))) (.int 1))))
theorem fact4 (ρ : Env) : E.B ρ f4 = true := by
  unfold f4
  rw [sm_B_imp]
  simp only [sm_B_and]
  rintro ⟨p0, p1, p2, p3, p4, p5, p6, p7, p8, p9, p10, p11, p12⟩
  have g0 := rows_get p0 (.var 2)
  clear p0
  simp only [sm_I_int, sm_I_fn6, sm_I_fn7, sm_I_fn8, sm_B_bool, sm_B_eql, sm_B_lss, sm_B_not, sm_B_and, sm_B_imp, sm_B_iff, sm_I_add_i64, sm_I_sub_i64, sm_I_mul_i64, sm_I_rem, sm_I_wr, sm_I_mx, sm_I_mn] at *
  try generalize E.I ρ (.var 2) = a0 at *
  try generalize E.I ρ (.var 1) = a1 at *
  try generalize E.I ρ (.fn 1 (.pr (.var 0) (.fn 6 (.pr (.fn 8 (.pr (.var 2) (.int 3))) (.int 0))))) = a2 at *
  try generalize E.I ρ (.fn 1 (.pr (.var 0) (.fn 6 (.pr (.fn 8 (.pr (.var 2) (.int 3))) (.int 1))))) = a3 at *
  try generalize E.I ρ (.fn 1 (.pr (.var 0) (.fn 6 (.pr (.fn 8 (.pr (.var 2) (.int 3))) (.int 2))))) = a4 at *
  omega
noncomputable def f5 : E := (.imp (.and (.fn 100 (.pr (.var 0) (.pr (.var 1) (.pr (.var 1) (.int 0))))) (.and (.cmp .lss (.var 2) (.var 1)) (.and (.not (.cmp .lss (.fn 1 (.pr (.var 0) (.fn 6 (.pr (.fn 8 (.pr (.var 2) (.int 3))) (.int 0))))) (.int 0))) (.and (.cmp .lss (.fn 1 (.pr (.var 0) (.fn 6 (.pr (.fn 8 (.pr (.var 2) (.int 3))) (.int 0))))) (.int 2)) (.and (.not (.cmp .lss (.fn 1 (.pr (.var 0) (.fn 6 (.pr (.fn 8 (.pr (.var 2) (.int 3))) (.int 1))))) (.int 0))) (.and (.cmp .lss (.fn 1 (.pr (.var 0) (.fn 6 (.pr (.fn 8 (.pr (.var 2) (.int 3))) (.int 1))))) (.int 2)) (.and (.not (.cmp .lss (.int 50001) (.var 1))) (.and (.not (.cmp .lss (.var 1) (.int 1))) (.and (.not (.cmp .lss (.var 1) (.var 2))) (.and (.not (.cmp .lss (.var 2) (.int 0))) (.and (.not (.cmp .lss (.int 50001) (.var 1))) (.not (.cmp .lss (.var 1) (.int 1)))))))))))))) (.not (.cmp .eql (.fn 1 (.pr (.var 0) (.fn 6 (.pr (.fn 8 (.pr (.var 2) (.int 3))) (.int 0))))) (.fn 1 (.pr (.var 0) (.fn 6 (.pr (.fn 8 (.pr (.var 2) (.int 3))) (.int 1))))))))
theorem fact5 (ρ : Env) : E.B ρ f5 = true := by
  unfold f5
  rw [sm_B_imp]
  simp only [sm_B_and]
  rintro ⟨p0, p1, p2, p3, p4, p5, p6, p7, p8, p9, p10, p11⟩
  have g0 := rows_get p0 (.var 2)
  clear p0
  simp only [sm_I_int, sm_I_fn6, sm_I_fn7, sm_I_fn8, sm_B_bool, sm_B_eql, sm_B_lss, sm_B_not, sm_B_and, sm_B_imp, sm_B_iff, sm_I_add_i64, sm_I_sub_i64, sm_I_mul_i64, sm_I_rem, sm_I_wr, sm_I_mx, sm_I_mn] at *
  try generalize E.I ρ (.var 2) = a0 at *
  try generalize E.I ρ (.var 1) = a1 at *
  try generalize E.I ρ (.fn 1 (.pr (.var 0) (.fn 6 (.pr (.fn 8 (.pr (.var 2) (.int 3))) (.int 0))))) = a2 at *
  try generalize E.I ρ (.fn 1 (.pr (.var 0) (.fn 6 (.pr (.fn 8 (.pr (.var 2) (.int 3))) (.int 1))))) = a3 at *
  omega
noncomputable def f6 : E := (.imp (.and (.fn 100 (.pr (.var 0) (.pr (.var 1) (.pr (.var 1) (.int 0))))) (.and (.cmp .lss (.var 2) (.var 1)) (.and (.not (.cmp .lss (.fn 1 (.pr (.var 0) (.fn 6 (.pr (.fn 8 (.pr (.var 2) (.int 3))) (.int 0))))) (.int 0))) (.and (.cmp .lss (.fn 1 (.pr (.var 0) (.fn 6 (.pr (.fn 8 (.pr (.var 2) (.int 3))) (.int 0))))) (.int 2)) (.and (.not (.cmp .lss (.fn 1 (.pr (.var 0) (.fn 6 (.pr (.fn 8 (.pr (.var 2) (.int 3))) (.int 1))))) (.int 0))) (.and (.not (.cmp .lss (.int 50001) (.var 1))) (.and (.not (.cmp .lss (.var 1) (.int 1))) (.and (.not (.cmp .lss (.var 1) (.var 2))) (.and (.not (.cmp .lss (.var 2) (.int 0))) (.and (.not (.cmp .lss (.int 50001) (.var 1))) (.not (.cmp .lss (.var 1) (.int 1))))))))))))) (.cmp .lss (.fn 1 (.pr (.var 0) (.fn 6 (.pr (.fn 8 (.pr (.var 2) (.int 3))) (.int 1))))) (.int 2)))
theorem fact6 (ρ : Env) : E.B ρ f6 = true := by
  unfold f6
  rw [sm_B_imp]
  simp only [sm_B_and]
  rintro ⟨p0, p1, p2, p3, p4, p5, p6, p7, p8, p9, p10⟩
  have g0 := rows_get p0 (.var 2)
  clear p0
  simp only [sm_I_int, sm_I_fn6, sm_I_fn7, sm_I_fn8, sm_B_bool, sm_B_eql, sm_B_lss, sm_B_not, sm_B_and, sm_B_imp, sm_B_iff, sm_I_add_i64, sm_I_sub_i64, sm_I_mul_i64, sm_I_rem, sm_I_wr, sm_I_mx, sm_I_mn] at *
  try generalize E.I ρ (.var 2) = a0 at *
  try generalize E.I ρ (.var 1) = a1 at *
  try generalize E.I ρ (.fn 1 (.pr (.var 0) (.fn 6 (.pr (.fn 8 (.pr (.var 2) (.int 3))) (.int 0))))) = a2 at *
  try generalize E.I ρ (.fn 1 (.pr (.var 0) (.fn 6 (.pr (.fn 8 (.pr (.var 2) (.int 3))) (.int 1))))) = a3 at *
  omega
noncomputable def f7 : E := (.imp (.and (.fn 100 (.pr (.var 0) (.pr (.var 1) (.pr (.var 1) (.int 0))))) (.and (.cmp .lss (.var 2) (.var 1)) (.and (.not (.cmp .lss (.fn 1 (.pr (.var 0) (.fn 6 (.pr (.fn 8 (.pr (.var 2) (.int 3))) (.int 0))))) (.int 0))) (.and (.not (.cmp .lss (.int 50001) (.var 1))) (.and (.not (.cmp .lss (.var 1) (.int 1))) (.and (.not (.cmp .lss (.var 1) (.var 2))) (.and (.not (.cmp .lss (.var 2) (.int 0))) (.and (.not (.cmp .lss (.int 50001) (.var 1))) (.not (.cmp .lss (.var 1) (.int 1))))))))))) (.cmp .lss (.fn 1 (.pr (.var 0) (.fn 6 (.pr (.fn 8 (.pr (.var 2) (.int 3))) (.int 0))))) (.int 2)))
theorem fact7 (ρ : Env) : E.B ρ f7 = true := by
  unfold f7
  rw [sm_B_imp]
  simp only [sm_B_and]
  rintro ⟨p0, p1, p2, p3, p4, p5, p6, p7, p8⟩
  have g0 := rows_get p0 (.var 2)
  clear p0
  simp only [sm_I_int, sm_I_fn6, sm_I_fn7, sm_I_fn8, sm_B_bool, sm_B_eql, sm_B_lss, sm_B_not, sm_B_and, sm_B_imp, sm_B_iff, sm_I_add_i64, sm_I_sub_i64, sm_I_mul_i64, sm_I_rem, sm_I_wr, sm_I_mx, sm_I_mn] at *
  try generalize E.I ρ (.var 2) = a0 at *
  try generalize E.I ρ (.var 1) = a1 at *
  try generalize E.I ρ (.fn 1 (.pr (.var 0) (.fn 6 (.pr (.fn 8 (.pr (.var 2) (.int 3))) (.int 0))))) = a2 at *
  omega
noncomputable def f8 : E := (.cmp .eql (.fn 8 (.pr (.int 0) (.int 2))) (.int 0))
theorem fact8 (ρ : Env) : E.B ρ f8 = true := by
  unfold f8
  simp only [sm_I_int, sm_I_fn6, sm_I_fn7, sm_I_fn8, sm_B_bool, sm_B_eql, sm_B_lss, sm_B_not, sm_B_and, sm_B_imp, sm_B_iff, sm_I_add_i64, sm_I_sub_i64, sm_I_mul_i64, sm_I_rem, sm_I_wr, sm_I_mx, sm_I_mn] at *
  omega
noncomputable def f9 : E := (.imp (.and (.fn 100 (.pr (.var 0) (.pr (.var 1) (.pr (.var 1) (.int 0))))) (.and (.cmp .lss (.var 2) (.var 1)) (.and (.cmp .lss (.fn 1 (.pr (.var 0) (.fn 6 (.pr (.fn 8 (.pr (.var 2) (.int 3))) (.int 0))))) (.int 2)) (.and (.not (.cmp .lss (.int 50001) (.var 1))) (.and (.not (.cmp .lss (.var 1) (.int 1))) (.and (.not (.cmp .lss (.var 1) (.var 2))) (.and (.not (.cmp .lss (.var 2) (.int 0))) (.and (.not (.cmp .lss (.int 50001) (.var 1))) (.not (.cmp .lss (.var 1) (.int 1))))))))))) (.not (.cmp .lss (.fn 1 (.pr (.var 0) (.fn 6 (.pr (.fn 8 (.pr (.var 2) (.int 3))) (.int 1))))) (.int 0))))
theorem fact9 (ρ : Env) : E.B ρ f9 = true := by
  unfold f9
  rw [sm_B_imp]
  simp only [sm_B_and]
  rintro ⟨p0, p1, p2, p3, p4, p5, p6, p7, p8⟩
  have g0 := rows_get p0 (.var 2)
  clear p0
  simp only [sm_I_int, sm_I_fn6, sm_I_fn7, sm_I_fn8, sm_B_bool, sm_B_eql, sm_B_lss, sm_B_not, sm_B_and, sm_B_imp, sm_B_iff, sm_I_add_i64, sm_I_sub_i64, sm_I_mul_i64, sm_I_rem, sm_I_wr, sm_I_mx, sm_I_mn] at *
  try generalize E.I ρ (.var 2) = a0 at *
  try generalize E.I ρ (.var 1) = a1 at *
  try generalize E.I ρ (.fn 1 (.pr (.var 0) (.fn 6 (.pr (.fn 8 (.pr (.var 2) (.int 3))) (.int 0))))) = a2 at *
  try generalize E.I ρ (.fn 1 (.pr (.var 0) (.fn 6 (.pr (.fn 8 (.pr (.var 2) (.int 3))) (.int 1))))) = a3 at *
  omega
noncomputable def f10 : E := (.imp (.and (.fn 100 (.pr (.var 0) (.pr (.var 1) (.pr (.var 1) (.int 0))))) (.and (.cmp .lss (.var 2) (.var 1)) (.and (.cmp .lss (.fn 1 (.pr (.var 0) (.fn 6 (.pr (.fn 8 (.pr (.var 2) (.int 3))) (.int 0))))) (.int 2)) (.and (.not (.cmp .lss (.fn 1 (.pr (.var 0) (.fn 6 (.pr (.fn 8 (.pr (.var 2) (.int 3))) (.int 1))))) (.int 0))) (.and (.cmp .lss (.fn 1 (.pr (.var 0) (.fn 6 (.pr (.fn 8 (.pr (.var 2) (.int 3))) (.int 1))))) (.int 2)) (.and (.not (.cmp .eql (.fn 1 (.pr (.var 0) (.fn 6 (.pr (.fn 8 (.pr (.var 2) (.int 3))) (.int 0))))) (.fn 1 (.pr (.var 0) (.fn 6 (.pr (.fn 8 (.pr (.var 2) (.int 3))) (.int 1))))))) (.and (.not (.cmp .lss (.fn 1 (.pr (.var 0) (.fn 6 (.pr (.fn 8 (.pr (.var 2) (.int 3))) (.int 2))))) (.int 1))) (.and (.not (.cmp .lss (.int 50001) (.var 1))) (.and (.not (.cmp .lss (.var 1) (.int 1))) (.and (.not (.cmp .lss (.var 1) (.var 2))) (.and (.not (.cmp .lss (.var 2) (.int 0))) (.and (.not (.cmp .lss (.int 50001) (.var 1))) (.not (.cmp .lss (.var 1) (.int 1))))))))))))))) (.not (.cmp .lss (.int 3) (.fn 1 (.pr (.var 0) (.fn 6 (.pr (.fn 8 (.pr (.var 2) (.int 3))) (.int 2))))))))
theorem fact10 (ρ : Env) : E.B ρ f10 = true := by
  unfold f10
  rw [sm_B_imp]
  simp only [sm_B_and]
  rintro ⟨p0, p1, p2, p3, p4, p5, p6, p7, p8, p9, p10, p11, p12⟩
  have g0 := rows_get p0 (.var 2)
  clear p0
  simp only [sm_I_int, sm_I_fn6, sm_I_fn7, sm_I_fn8, sm_B_bool, sm_B_eql, sm_B_lss, sm_B_not, sm_B_and, sm_B_imp, sm_B_iff, sm_I_add_i64, sm_I_sub_i64, sm_I_mul_i64, sm_I_rem, sm_I_wr, sm_I_mx, sm_I_mn] at *
  try generalize E.I ρ (.var 2) = a0 at *
  try generalize E.I ρ (.var 1) = a1 at *
  try generalize E.I ρ (.fn 1 (.pr (.var 0) (.fn 6 (.pr (.fn 8 (.pr (.var 2) (.int 3))) (.int 0))))) = a2 at *
  try generalize E.I ρ (.fn 1 (.pr (.var 0) (.fn 6 (.pr (.fn 8 (.pr (.var 2) (.int 3))) (.int 1))))) = a3 at *
  try generalize E.I ρ (.fn 1 (.pr (.var 0) (.fn 6 (.pr (.fn 8 (.pr (.var 2) (.int 3))) (.int 2))))) = a4 at *
  omega
noncomputable def f11 : E := (.imp (.and (.cmp .lss (.var 2) (.var 1)) (.and (.not (.cmp .lss (.int 50001) (.var 1))) (.and (.not (.cmp .lss (.var 1) (.int 1))) (.and (.not (.cmp .lss (.var 1) (.var 2))) (.and (.not (.cmp .lss (.var 2) (.int 0))) (.and (.not (.cmp .lss (.int 50001) (.var 1))) (.not (.cmp .lss (.var 1) (.int 1))))))))) (.not (.cmp .lss (.var 1) (.ar .add .i64 (.var 2) (.int 1)))))
theorem fact11 (ρ : Env) : E.B ρ f11 = true := by
  unfold f11
  rw [sm_B_imp]
  simp only [sm_B_and]
  rintro ⟨p0, p1, p2, p3, p4, p5, p6⟩
  simp only [sm_I_int, sm_I_fn6, sm_I_fn7, sm_I_fn8, sm_B_bool, sm_B_eql, sm_B_lss, sm_B_not, sm_B_and, sm_B_imp, sm_B_iff, sm_I_add_i64, sm_I_sub_i64, sm_I_mul_i64, sm_I_rem, sm_I_wr, sm_I_mx, sm_I_mn] at *
  try generalize E.I ρ (.var 2) = a0 at *
  try generalize E.I ρ (.var 1) = a1 at *
  obtain ⟨a2, ea2, qa2⟩ := cs_i64 (a0 + (1))
  try simp only [ea2] at *
  omega
noncomputable def f12 : E := (.imp (.and (.fn 100 (.pr (.var 0) (.pr (.var 1) (.pr (.var 1) (.int 0))))) (.and (.cmp .lss (.var 2) (.var 1)) (.and (.cmp .lss (.fn 1 (.pr (.var 0) (.fn 6 (.pr (.fn 8 (.pr (.var 2) (.int 3))) (.int 0))))) (.int 2)) (.and (.not (.cmp .lss (.fn 1 (.pr (.var 0) (.fn 6 (.pr (.fn 8 (.pr (.var 2) (.int 3))) (.int 1))))) (.int 0))) (.and (.cmp .lss (.fn 1 (.pr (.var 0) (.fn 6 (.pr (.fn 8 (.pr (.var 2) (.int 3))) (.int 1))))) (.int 2)) (.and (.not (.cmp .eql (.fn 1 (.pr (.var 0) (.fn 6 (.pr (.fn 8 (.pr (.var 2) (.int 3))) (.int 0))))) (.fn 1 (.pr (.var 0) (.fn 6 (.pr (.fn 8 (.pr (.var 2) (.int 3))) (.int 1))))))) (.and (.not (.cmp .lss (.int 50001) (.var 1))) (.and (.not (.cmp .lss (.var 1) (.int 1))) (.and (.not (.cmp .lss (.var 1) (.var 2))) (.and (.not (.cmp .lss (.var 2) (.int 0))) (.and (.not (.cmp .lss (.int 50001) (.var 1))) (.not (.cmp .lss (.var 1) (.int 1)))))))))))))) (.not (.cmp .lss (.fn 1 (.pr (.var 0) (.fn 6 (.pr (.fn 8 (.pr (.var 2) (.int 3))) (.int 2))))) (.int 1))))
theorem fact12 (ρ : Env) : E.B ρ f12 = true := by
  unfold f12
  rw [sm_B_imp]
  simp only [sm_B_and]
  rintro ⟨p0, p1, p2, p3, p4, p5, p6, p7, p8, p9, p10, p11⟩
  have g0 := rows_get p0 (.var 2)
  clear p0
  simp only [sm_I_int, sm_I_fn6, sm_I_fn7, sm_I_fn8, sm_B_bool, sm_B_eql, sm_B_lss, sm_B_not, sm_B_and, sm_B_imp, sm_B_iff, sm_I_add_i64, sm_I_sub_i64, sm_I_mul_i64, sm_I_rem, sm_I_wr, sm_I_mx, sm_I_mn] at *
  try generalize E.I ρ (.var 2) = a0 at *
  try generalize E.I ρ (.var 1) = a1 at *
  try generalize E.I ρ (.fn 1 (.pr (.var 0) (.fn 6 (.pr (.fn 8 (.pr (.var 2) (.int 3))) (.int 0))))) = a2 at *
  try generalize E.I ρ (.fn 1 (.pr (.var 0) (.fn 6 (.pr (.fn 8 (.pr (.var 2) (.int 3))) (.int 1))))) = a3 at *
  try generalize E.I ρ (.fn 1 (.pr (.var 0) (.fn 6 (.pr (.fn 8 (.pr (.var 2) (.int 3))) (.int 2))))) = a4 at *
  omega
noncomputable def f13 : E := (.imp (.and (.fn 100 (.pr (.var 0) (.pr (.var 1) (.pr (.var 1) (.int 0))))) (.and (.cmp .lss (.var 2) (.var 1)) (.and (.cmp .lss (.fn 1 (.pr (.var 0) (.fn 6 (.pr (.fn 8 (.pr (.var 2) (.int 3))) (.int 0))))) (.int 2)) (.and (.not (.cmp .lss (.fn 1 (.pr (.var 0) (.fn 6 (.pr (.fn 8 (.pr (.var 2) (.int 3))) (.int 1))))) (.int 0))) (.and (.cmp .lss (.fn 1 (.pr (.var 0) (.fn 6 (.pr (.fn 8 (.pr (.var 2) (.int 3))) (.int 1))))) (.int 2)) (.and (.not (.cmp .lss (.int 50001) (.var 1))) (.and (.not (.cmp .lss (.var 1) (.int 1))) (.and (.not (.cmp .lss (.var 1) (.var 2))) (.and (.not (.cmp .lss (.var 2) (.int 0))) (.and (.not (.cmp .lss (.int 50001) (.var 1))) (.not (.cmp .lss (.var 1) (.int 1))))))))))))) (.not (.cmp .eql (.fn 1 (.pr (.var 0) (.fn 6 (.pr (.fn 8 (.pr (.var 2) (.int 3))) (.int 0))))) (.fn 1 (.pr (.var 0) (.fn 6 (.pr (.fn 8 (.pr (.var 2) (.int 3))) (.int 1))))))))
theorem fact13 (ρ : Env) : E.B ρ f13 = true := by
  unfold f13
  rw [sm_B_imp]
  simp only [sm_B_and]
  rintro ⟨p0, p1, p2, p3, p4, p5, p6, p7, p8, p9, p10⟩
  have g0 := rows_get p0 (.var 2)
  clear p0
  simp only [sm_I_int, sm_I_fn6, sm_I_fn7, sm_I_fn8, sm_B_bool, sm_B_eql, sm_B_lss, sm_B_not, sm_B_and, sm_B_imp, sm_B_iff, sm_I_add_i64, sm_I_sub_i64, sm_I_mul_i64, sm_I_rem, sm_I_wr, sm_I_mx, sm_I_mn] at *
  try generalize E.I ρ (.var 2) = a0 at *
  try generalize E.I ρ (.var 1) = a1 at *
  try generalize E.I ρ (.fn 1 (.pr (.var 0) (.fn 6 (.pr (.fn 8 (.pr (.var 2) (.int 3))) (.int 0))))) = a2 at *
  try generalize E.I ρ (.fn 1 (.pr (.var 0) (.fn 6 (.pr (.fn 8 (.pr (.var 2) (.int 3))) (.int 1))))) = a3 at *
  omega
noncomputable def f14 : E := (.imp (.and (.fn 100 (.pr (.var 0) (.pr (.var 1) (.pr (.var 1) (.int 0))))) (.and (.cmp .lss (.var 2) (.var 1)) (.and (.cmp .lss (.fn 1 (.pr (.var 0) (.fn 6 (.pr (.fn 8 (.pr (.var 2) (.int 3))) (.int 0))))) (.int 2)) (.and (.not (.cmp .lss (.fn 1 (.pr (.var 0) (.fn 6 (.pr (.fn 8 (.pr (.var 2) (.int 3))) (.int 1))))) (.int 0))) (.and (.not (.cmp .lss (.int 50001) (.var 1))) (.and (.not (.cmp .lss (.var 1) (.int 1))) (.and (.not (.cmp .lss (.var 1) (.var 2))) (.and (.not (.cmp .lss (.var 2) (.int 0))) (.and (.not (.cmp .lss (.int 50001) (.var 1))) (.not (.cmp .lss (.var 1) (.int 1)))))))))))) (.cmp .lss (.fn 1 (.pr (.var 0) (.fn 6 (.pr (.fn 8 (.pr (.var 2) (.int 3))) (.int 1))))) (.int 2)))
theorem fact14 (ρ : Env) : E.B ρ f14 = true := by
  unfold f14
  rw [sm_B_imp]
  simp only [sm_B_and]
  rintro ⟨p0, p1, p2, p3, p4, p5, p6, p7, p8, p9⟩
  have g0 := rows_get p0 (.var 2)
  clear p0
  simp only [sm_I_int, sm_I_fn6, sm_I_fn7, sm_I_fn8, sm_B_bool, sm_B_eql, sm_B_lss, sm_B_not, sm_B_and, sm_B_imp, sm_B_iff, sm_I_add_i64, sm_I_sub_i64, sm_I_mul_i64, sm_I_rem, sm_I_wr, sm_I_mx, sm_I_mn] at *
  try generalize E.I ρ (.var 2) = a0 at *
  try generalize E.I ρ (.var 1) = a1 at *
  try generalize E.I ρ (.fn 1 (.pr (.var 0) (.fn 6 (.pr (.fn 8 (.pr (.var 2) (.int 3))) (.int 0))))) = a2 at *
  try generalize E.I ρ (.fn 1 (.pr (.var 0) (.fn 6 (.pr (.fn 8 (.pr (.var 2) (.int 3))) (.int 1))))) = a3 at *
  omega
noncomputable def f15 : E := (.imp (.and (.fn 100 (.pr (.var 0) (.pr (.var 1) (.pr (.var 1) (.int 0))))) (.and (.cmp .lss (.var 2) (.var 1)) (.and (.not (.cmp .lss (.int 50001) (.var 1))) (.and (.not (.cmp .lss (.var 1) (.int 1))) (.and (.not (.cmp .lss (.var 1) (.var 2))) (.and (.not (.cmp .lss (.var 2) (.int 0))) (.and (.not (.cmp .lss (.int 50001) (.var 1))) (.not (.cmp .lss (.var 1) (.int 1)))))))))) (.cmp .lss (.fn 1 (.pr (.var 0) (.fn 6 (.pr (.fn 8 (.pr (.var 2) (.int 3))) (.int 0))))) (.int 2)))
theorem fact15 (ρ : Env) : E.B ρ f15 = true := by
  unfold f15
  rw [sm_B_imp]
  simp only [sm_B_and]
  rintro ⟨p0, p1, p2, p3, p4, p5, p6, p7⟩
  have g0 := rows_get p0 (.var 2)
  clear p0
  simp only [sm_I_int, sm_I_fn6, sm_I_fn7, sm_I_fn8, sm_B_bool, sm_B_eql, sm_B_lss, sm_B_not, sm_B_and, sm_B_imp, sm_B_iff, sm_I_add_i64, sm_I_sub_i64, sm_I_mul_i64, sm_I_rem, sm_I_wr, sm_I_mx, sm_I_mn] at *
  try generalize E.I ρ (.var 2) = a0 at *
  try generalize E.I ρ (.var 1) = a1 at *
  try generalize E.I ρ (.fn 1 (.pr (.var 0) (.fn 6 (.pr (.fn 8 (.pr (.var 2) (.int 3))) (.int 0))))) = a2 at *
  omega
noncomputable def f16 : E := (.imp (.and (.fn 100 (.pr (.var 0) (.pr (.var 1) (.pr (.var 1) (.int 0))))) (.and (.cmp .lss (.var 8) (.var 1)) (.and (.cmp .eql (.fn 1 (.pr (.var 0) (.fn 6 (.pr (.fn 8 (.pr (.var 8) (.int 3))) (.int 2))))) (.int 1)) (.and (.cmp .eql (.fn 1 (.pr (.var 0) (.fn 6 (.pr (.fn 8 (.pr (.var 8) (.int 3))) (.int 0))))) (.int 0)) (.and (.not (.cmp .eql (.fn 1 (.pr (.var 0) (.fn 6 (.pr (.fn 8 (.pr (.var 8) (.int 3))) (.int 1))))) (.int 0))) (.and (.cmp .eql (.var 9) (.fn 8 (.pr (.var 8) (.int 2)))) (.and (.not (.cmp .lss (.var 1) (.var 8))) (.and (.not (.cmp .lss (.var 8) (.int 0))) (.and (.not (.cmp .lss (.int 50001) (.var 1))) (.and (.not (.cmp .lss (.var 1) (.int 1))) (.and (.not (.cmp .lss (.int 50001) (.var 1))) (.not (.cmp .lss (.var 1) (.int 1)))))))))))))) (.cmp .eql (.fn 1 (.pr (.var 0) (.fn 6 (.pr (.fn 8 (.pr (.var 8) (.int 3))) (.int 1))))) (.int 1)))
theorem fact16 (ρ : Env) : E.B ρ f16 = true := by
  unfold f16
  rw [sm_B_imp]
  simp only [sm_B_and]
  rintro ⟨p0, p1, p2, p3, p4, p5, p6, p7, p8, p9, p10, p11⟩
  have g0 := rows_get p0 (.var 8)
  clear p0
  simp only [sm_I_int, sm_I_fn6, sm_I_fn7, sm_I_fn8, sm_B_bool, sm_B_eql, sm_B_lss, sm_B_not, sm_B_and, sm_B_imp, sm_B_iff, sm_I_add_i64, sm_I_sub_i64, sm_I_mul_i64, sm_I_rem, sm_I_wr, sm_I_mx, sm_I_mn] at *
  try generalize E.I ρ (.var 8) = a0 at *
  try generalize E.I ρ (.var 1) = a1 at *
  try generalize E.I ρ (.fn 1 (.pr (.var 0) (.fn 6 (.pr (.fn 8 (.pr (.var 8) (.int 3))) (.int 2))))) = a2 at *
  try generalize E.I ρ (.fn 1 (.pr (.var 0) (.fn 6 (.pr (.fn 8 (.pr (.var 8) (.int 3))) (.int 0))))) = a3 at *
  try generalize E.I ρ (.fn 1 (.pr (.var 0) (.fn 6 (.pr (.fn 8 (.pr (.var 8) (.int 3))) (.int 1))))) = a4 at *
  try generalize E.I ρ (.var 9) = a5 at *
  omega
noncomputable def f17 : E := (.imp (.and (.fn 100 (.pr (.var 0) (.pr (.var 1) (.pr (.var 1) (.int 0))))) (.and (.cmp .lss (.var 8) (.var 1)) (.and (.cmp .eql (.fn 1 (.pr (.var 0) (.fn 6 (.pr (.fn 8 (.pr (.var 8) (.int 3))) (.int 2))))) (.int 1)) (.and (.not (.cmp .eql (.fn 1 (.pr (.var 0) (.fn 6 (.pr (.fn 8 (.pr (.var 8) (.int 3))) (.int 0))))) (.int 0))) (.and (.cmp .eql (.fn 1 (.pr (.var 0) (.fn 6 (.pr (.fn 8 (.pr (.var 8) (.int 3))) (.int 0))))) (.int 1)) (.and (.not (.cmp .eql (.fn 1 (.pr (.var 0) (.fn 6 (.pr (.fn 8 (.pr (.var 8) (.int 3))) (.int 1))))) (.int 0))) (.and (.cmp .eql (.var 9) (.fn 8 (.pr (.var 8) (.int 2)))) (.and (.not (.cmp .lss (.var 1) (.var 8))) (.and (.not (.cmp .lss (.var 8) (.int 0))) (.and (.not (.cmp .lss (.int 50001) (.var 1))) (.and (.not (.cmp .lss (.var 1) (.int 1))) (.and (.not (.cmp .lss (.int 50001) (.var 1))) (.not (.cmp .lss (.var 1) (.int 1))))))))))))))) (.cmp .eql (.fn 1 (.pr (.var 0) (.fn 6 (.pr (.fn 8 (.pr (.var 8) (.int 3))) (.int 1))))) (.int 1)))
theorem fact17 (ρ : Env) : E.B ρ f17 = true := by
  unfold f17
  rw [sm_B_imp]
  simp only [sm_B_and]
  rintro ⟨p0, p1, p2, p3, p4, p5, p6, p7, p8, p9, p10, p11, p12⟩
  have g0 := rows_get p0 (.var 8)
  clear p0
  simp only [sm_I_int, sm_I_fn6, sm_I_fn7, sm_I_fn8, sm_B_bool, sm_B_eql, sm_B_lss, sm_B_not, sm_B_and, sm_B_imp, sm_B_iff, sm_I_add_i64, sm_I_sub_i64, sm_I_mul_i64, sm_I_rem, sm_I_wr, sm_I_mx, sm_I_mn] at *
  try generalize E.I ρ (.var 8) = a0 at *
  try generalize E.I ρ (.var 1) = a1 at *
  try generalize E.I ρ (.fn 1 (.pr (.var 0) (.fn 6 (.pr (.fn 8 (.pr (.var 8) (.int 3))) (.int 2))))) = a2 at *
  try generalize E.I ρ (.fn 1 (.pr (.var 0) (.fn 6 (.pr (.fn 8 (.pr (.var 8) (.int 3))) (.int 0))))) = a3 at *
  try generalize E.I ρ (.fn 1 (.pr (.var 0) (.fn 6 (.pr (.fn 8 (.pr (.var 8) (.int 3))) (.int 1))))) = a4 at *
  try generalize E.I ρ (.var 9) = a5 at *
  omega
noncomputable def f18 : E := (.imp (.and (.fn 100 (.pr (.var 0) (.pr (.var 1) (.pr (.var 1) (.int 0))))) (.and (.cmp .lss (.var 2) (.var 1)) (.and (.not (.cmp .lss (.int 50001) (.var 1))) (.and (.not (.cmp .lss (.var 1) (.int 1))) (.and (.not (.cmp .lss (.var 1) (.var 2))) (.and (.not (.cmp .lss (.var 2) (.int 0))) (.and (.not (.cmp .lss (.int 50001) (.var 1))) (.not (.cmp .lss (.var 1) (.int 1)))))))))) (.not (.cmp .lss (.fn 1 (.pr (.var 0) (.fn 6 (.pr (.fn 8 (.pr (.var 2) (.int 3))) (.int 1))))) (.int 0))))
theorem fact18 (ρ : Env) : E.B ρ f18 = true := by
  unfold f18
  rw [sm_B_imp]
  simp only [sm_B_and]
  rintro ⟨p0, p1, p2, p3, p4, p5, p6, p7⟩
  have g0 := rows_get p0 (.var 2)
  clear p0
  simp only [sm_I_int, sm_I_fn6, sm_I_fn7, sm_I_fn8, sm_B_bool, sm_B_eql, sm_B_lss, sm_B_not, sm_B_and, sm_B_imp, sm_B_iff, sm_I_add_i64, sm_I_sub_i64, sm_I_mul_i64, sm_I_rem, sm_I_wr, sm_I_mx, sm_I_mn] at *
  try generalize E.I ρ (.var 2) = a0 at *
  try generalize E.I ρ (.var 1) = a1 at *
  try generalize E.I ρ (.fn 1 (.pr (.var 0) (.fn 6 (.pr (.fn 8 (.pr (.var 2) (.int 3))) (.int 1))))) = a2 at *
  omega
noncomputable def f19 : E := (.imp (.and (.fn 100 (.pr (.var 0) (.pr (.var 1) (.pr (.var 1) (.int 0))))) (.and (.cmp .lss (.var 2) (.var 1)) (.and (.not (.cmp .lss (.fn 1 (.pr (.var 0) (.fn 6 (.pr (.fn 8 (.pr (.var 2) (.int 3))) (.int 1))))) (.int 0))) (.and (.cmp .lss (.fn 1 (.pr (.var 0) (.fn 6 (.pr (.fn 8 (.pr (.var 2) (.int 3))) (.int 1))))) (.int 2)) (.and (.not (.cmp .eql (.fn 1 (.pr (.var 0) (.fn 6 (.pr (.fn 8 (.pr (.var 2) (.int 3))) (.int 0))))) (.fn 1 (.pr (.var 0) (.fn 6 (.pr (.fn 8 (.pr (.var 2) (.int 3))) (.int 1))))))) (.and (.not (.cmp .lss (.fn 1 (.pr (.var 0) (.fn 6 (.pr (.fn 8 (.pr (.var 2) (.int 3))) (.int 2))))) (.int 1))) (.and (.not (.cmp .lss (.int 50001) (.var 1))) (.and (.not (.cmp .lss (.var 1) (.int 1))) (.and (.not (.cmp .lss (.var 1) (.var 2))) (.and (.not (.cmp .lss (.var 2) (.int 0))) (.and (.not (.cmp .lss (.int 50001) (.var 1))) (.not (.cmp .lss (.var 1) (.int 1)))))))))))))) (.not (.cmp .lss (.int 3) (.fn 1 (.pr (.var 0) (.fn 6 (.pr (.fn 8 (.pr (.var 2) (.int 3))) (.int 2))))))))
theorem fact19 (ρ : Env) : E.B ρ f19 = true := by
  unfold f19
  rw [sm_B_imp]
  simp only [sm_B_and]
  rintro ⟨p0, p1, p2, p3, p4, p5, p6, p7, p8, p9, p10, p11⟩
  have g0 := rows_get p0 (.var 2)
  clear p0
  simp only [sm_I_int, sm_I_fn6, sm_I_fn7, sm_I_fn8, sm_B_bool, sm_B_eql, sm_B_lss, sm_B_not, sm_B_and, sm_B_imp, sm_B_iff, sm_I_add_i64, sm_I_sub_i64, sm_I_mul_i64, sm_I_rem, sm_I_wr, sm_I_mx, sm_I_mn] at *
  try generalize E.I ρ (.var 2) = a0 at *
  try generalize E.I ρ (.var 1) = a1 at *
  try generalize E.I ρ (.fn 1 (.pr (.var 0) (.fn 6 (.pr (.fn 8 (.pr (.var 2) (.int 3))) (.int 1))))) = a2 at *
  try generalize E.I ρ (.fn 1 (.pr (.var 0) (.fn 6 (.pr (.fn 8 (.pr (.var 2) (.int 3))) (.int 0))))) = a3 at *
  try generalize E.I ρ (.fn 1 (.pr (.var 0) (.fn 6 (.pr (.fn 8 (.pr (.var 2) (.int 3))) (.int 2))))) = a4 at *
  omega
noncomputable def f20 : E := (.imp (.and (.not (.cmp .lss (.int 50001) (.var 1))) (.and (.not (.cmp .lss (.var 1) (.int 1))) (.and (.not (.cmp .lss (.var 1) (.var 2))) (.and (.not (.cmp .lss (.var 2) (.int 0))) (.and (.not (.cmp .lss (.int 50001) (.var 1))) (.not (.cmp .lss (.var 1) (.int 1)))))))) (.cmp .lss (.fn 7 (.pr (.var 1) (.ar .add .i64 (.var 2) (.int 1)))) (.fn 7 (.pr (.var 1) (.var 2)))))
theorem fact20 (ρ : Env) : E.B ρ f20 = true := by
  unfold f20
  rw [sm_B_imp]
  simp only [sm_B_and]
  rintro ⟨p0, p1, p2, p3, p4, p5⟩
  simp only [sm_I_int, sm_I_fn6, sm_I_fn7, sm_I_fn8, sm_B_bool, sm_B_eql, sm_B_lss, sm_B_not, sm_B_and, sm_B_imp, sm_B_iff, sm_I_add_i64, sm_I_sub_i64, sm_I_mul_i64, sm_I_rem, sm_I_wr, sm_I_mx, sm_I_mn] at *
  try generalize E.I ρ (.var 1) = a0 at *
  try generalize E.I ρ (.var 2) = a1 at *
  obtain ⟨a2, ea2, qa2⟩ := cs_i64 (a1 + (1))
  try simp only [ea2] at *
  omega
noncomputable def f21 : E := (.imp (.and (.fn 100 (.pr (.var 0) (.pr (.var 1) (.pr (.var 1) (.int 0))))) (.and (.cmp .lss (.var 2) (.var 1)) (.and (.not (.cmp .lss (.fn 1 (.pr (.var 0) (.fn 6 (.pr (.fn 8 (.pr (.var 2) (.int 3))) (.int 1))))) (.int 0))) (.and (.cmp .lss (.fn 1 (.pr (.var 0) (.fn 6 (.pr (.fn 8 (.pr (.var 2) (.int 3))) (.int 1))))) (.int 2)) (.and (.not (.cmp .eql (.fn 1 (.pr (.var 0) (.fn 6 (.pr (.fn 8 (.pr (.var 2) (.int 3))) (.int 0))))) (.fn 1 (.pr (.var 0) (.fn 6 (.pr (.fn 8 (.pr (.var 2) (.int 3))) (.int 1))))))) (.and (.not (.cmp .lss (.int 50001) (.var 1))) (.and (.not (.cmp .lss (.var 1) (.int 1))) (.and (.not (.cmp .lss (.var 1) (.var 2))) (.and (.not (.cmp .lss (.var 2) (.int 0))) (.and (.not (.cmp .lss (.int 50001) (.var 1))) (.not (.cmp .lss (.var 1) (.int 1))))))))))))) (.not (.cmp .lss (.fn 1 (.pr (.var 0) (.fn 6 (.pr (.fn 8 (.pr (.var 2) (.int 3))) (.int 2))))) (.int 1))))
theorem fact21 (ρ : Env) : E.B ρ f21 = true := by
  unfold f21
  rw [sm_B_imp]
  simp only [sm_B_and]
  rintro ⟨p0, p1, p2, p3, p4, p5, p6, p7, p8, p9, p10⟩
  have g0 := rows_get p0 (.var 2)
  clear p0
  simp only [sm_I_int, sm_I_fn6, sm_I_fn7, sm_I_fn8, sm_B_bool, sm_B_eql, sm_B_lss, sm_B_not, sm_B_and, sm_B_imp, sm_B_iff, sm_I_add_i64, sm_I_sub_i64, sm_I_mul_i64, sm_I_rem, sm_I_wr, sm_I_mx, sm_I_mn] at *
  try generalize E.I ρ (.var 2) = a0 at *
  try generalize E.I ρ (.var 1) = a1 at *
  try generalize E.I ρ (.fn 1 (.pr (.var 0) (.fn 6 (.pr (.fn 8 (.pr (.var 2) (.int 3))) (.int 1))))) = a2 at *
  try generalize E.I ρ (.fn 1 (.pr (.var 0) (.fn 6 (.pr (.fn 8 (.pr (.var 2) (.int 3))) (.int 0))))) = a3 at *
  try generalize E.I ρ (.fn 1 (.pr (.var 0) (.fn 6 (.pr (.fn 8 (.pr (.var 2) (.int 3))) (.int 2))))) = a4 at *
  omega
noncomputable def f22 : E := (.imp (.and (.fn 100 (.pr (.var 0) (.pr (.var 1) (.pr (.var 1) (.int 0))))) (.and (.cmp .lss (.var 2) (.var 1)) (.and (.not (.cmp .lss (.fn 1 (.pr (.var 0) (.fn 6 (.pr (.fn 8 (.pr (.var 2) (.int 3))) (.int 1))))) (.int 0))) (.and (.cmp .lss (.fn 1 (.pr (.var 0) (.fn 6 (.pr (.fn 8 (.pr (.var 2) (.int 3))) (.int 1))))) (.int 2)) (.and (.not (.cmp .lss (.int 50001) (.var 1))) (.and (.not (.cmp .lss (.var 1) (.int 1))) (.and (.not (.cmp .lss (.var 1) (.var 2))) (.and (.not (.cmp .lss (.var 2) (.int 0))) (.and (.not (.cmp .lss (.int 50001) (.var 1))) (.not (.cmp .lss (.var 1) (.int 1)))))))))))) (.not (.cmp .eql (.fn 1 (.pr (.var 0) (.fn 6 (.pr (.fn 8 (.pr (.var 2) (.int 3))) (.int 0))))) (.fn 1 (.pr (.var 0) (.fn 6 (.pr (.fn 8 (.pr (.var 2) (.int 3))) (.int 1))))))))
theorem fact22 (ρ : Env) : E.B ρ f22 = true := by
  unfold f22
  rw [sm_B_imp]
  simp only [sm_B_and]
  rintro ⟨p0, p1, p2, p3, p4, p5, p6, p7, p8, p9⟩
  have g0 := rows_get p0 (.var 2)
  clear p0
  simp only [sm_I_int, sm_I_fn6, sm_I_fn7, sm_I_fn8, sm_B_bool, sm_B_eql, sm_B_lss, sm_B_not, sm_B_and, sm_B_imp, sm_B_iff, sm_I_add_i64, sm_I_sub_i64, sm_I_mul_i64, sm_I_rem, sm_I_wr, sm_I_mx, sm_I_mn] at *
  try generalize E.I ρ (.var 2) = a0 at *
  try generalize E.I ρ (.var 1) = a1 at *
  try generalize E.I ρ (.fn 1 (.pr (.var 0) (.fn 6 (.pr (.fn 8 (.pr (.var 2) (.int 3))) (.int 1))))) = a2 at *
  try generalize E.I ρ (.fn 1 (.pr (.var 0) (.fn 6 (.pr (.fn 8 (.pr (.var 2) (.int 3))) (.int 0))))) = a3 at *
  omega
noncomputable def f23 : E := (.imp (.and (.fn 100 (.pr (.var 0) (.pr (.var 1) (.pr (.var 1) (.int 0))))) (.and (.cmp .lss (.var 2) (.var 1)) (.and (.not (.cmp .lss (.fn 1 (.pr (.var 0) (.fn 6 (.pr (.fn 8 (.pr (.var 2) (.int 3))) (.int 1))))) (.int 0))) (.and (.not (.cmp .lss (.int 50001) (.var 1))) (.and (.not (.cmp .lss (.var 1) (.int 1))) (.and (.not (.cmp .lss (.var 1) (.var 2))) (.and (.not (.cmp .lss (.var 2) (.int 0))) (.and (.not (.cmp .lss (.int 50001) (.var 1))) (.not (.cmp .lss (.var 1) (.int 1))))))))))) (.cmp .lss (.fn 1 (.pr (.var 0) (.fn 6 (.pr (.fn 8 (.pr (.var 2) (.int 3))) (.int 1))))) (.int 2)))
theorem fact23 (ρ : Env) : E.B ρ f23 = true := by
  unfold f23
  rw [sm_B_imp]
  simp only [sm_B_and]
  rintro ⟨p0, p1, p2, p3, p4, p5, p6, p7, p8⟩
  have g0 := rows_get p0 (.var 2)
  clear p0
  simp only [sm_I_int, sm_I_fn6, sm_I_fn7, sm_I_fn8, sm_B_bool, sm_B_eql, sm_B_lss, sm_B_not, sm_B_and, sm_B_imp, sm_B_iff, sm_I_add_i64, sm_I_sub_i64, sm_I_mul_i64, sm_I_rem, sm_I_wr, sm_I_mx, sm_I_mn] at *
  try generalize E.I ρ (.var 2) = a0 at *
  try generalize E.I ρ (.var 1) = a1 at *
  try generalize E.I ρ (.fn 1 (.pr (.var 0) (.fn 6 (.pr (.fn 8 (.pr (.var 2) (.int 3))) (.int 1))))) = a2 at *
  omega
noncomputable def f24 : E := (.imp (.and (.fn 100 (.pr (.var 0) (.pr (.var 1) (.pr (.var 1) (.int 0))))) (.and (.cmp .lss (.var 8) (.var 1)) (.and (.cmp .eql (.fn 1 (.pr (.var 0) (.fn 6 (.pr (.fn 8 (.pr (.var 8) (.int 3))) (.int 2))))) (.int 1)) (.and (.not (.cmp .eql (.fn 1 (.pr (.var 0) (.fn 6 (.pr (.fn 8 (.pr (.var 8) (.int 3))) (.int 0))))) (.int 0))) (.and (.cmp .eql (.var 9) (.fn 8 (.pr (.var 8) (.int 2)))) (.and (.not (.cmp .lss (.var 1) (.var 8))) (.and (.not (.cmp .lss (.var 8) (.int 0))) (.and (.not (.cmp .lss (.int 50001) (.var 1))) (.and (.not (.cmp .lss (.var 1) (.int 1))) (.and (.not (.cmp .lss (.int 50001) (.var 1))) (.not (.cmp .lss (.var 1) (.int 1))))))))))))) (.cmp .eql (.fn 1 (.pr (.var 0) (.fn 6 (.pr (.fn 8 (.pr (.var 8) (.int 3))) (.int 0))))) (.int 1)))
theorem fact24 (ρ : Env) : E.B ρ f24 = true := by
  unfold f24
  rw [sm_B_imp]
  simp only [sm_B_and]
  rintro ⟨p0, p1, p2, p3, p4, p5, p6, p7, p8, p9, p10⟩
  have g0 := rows_get p0 (.var 8)
  clear p0
  simp only [sm_I_int, sm_I_fn6, sm_I_fn7, sm_I_fn8, sm_B_bool, sm_B_eql, sm_B_lss, sm_B_not, sm_B_and, sm_B_imp, sm_B_iff, sm_I_add_i64, sm_I_sub_i64, sm_I_mul_i64, sm_I_rem, sm_I_wr, sm_I_mx, sm_I_mn] at *
  try generalize E.I ρ (.var 8) = a0 at *
  try generalize E.I ρ (.var 1) = a1 at *
  try generalize E.I ρ (.fn 1 (.pr (.var 0) (.fn 6 (.pr (.fn 8 (.pr (.var 8) (.int 3))) (.int 2))))) = a2 at *
  try generalize E.I ρ (.fn 1 (.pr (.var 0) (.fn 6 (.pr (.fn 8 (.pr (.var 8) (.int 3))) (.int 0))))) = a3 at *
  try generalize E.I ρ (.var 9) = a4 at *
  omega
noncomputable def f25 : E := (.imp (.and (.fn 100 (.pr (.var 0) (.pr (.var 1) (.pr (.var 1) (.int 0))))) (.and (.cmp .lss (.var 8) (.var 1)) (.and (.not (.cmp .eql (.fn 1 (.pr (.var 0) (.fn 6 (.pr (.fn 8 (.pr (.var 8) (.int 3))) (.int 2))))) (.int 1))) (.and (.cmp .eql (.fn 1 (.pr (.var 0) (.fn 6 (.pr (.fn 8 (.pr (.var 8) (.int 3))) (.int 2))))) (.int 2)) (.and (.cmp .eql (.fn 1 (.pr (.var 0) (.fn 6 (.pr (.fn 8 (.pr (.var 8) (.int 3))) (.int 1))))) (.int 0)) (.and (.not (.cmp .eql (.fn 1 (.pr (.var 0) (.fn 6 (.pr (.fn 8 (.pr (.var 8) (.int 3))) (.int 0))))) (.int 0))) (.and (.cmp .eql (.var 9) (.fn 8 (.pr (.var 8) (.int 2)))) (.and (.not (.cmp .lss (.var 1) (.var 8))) (.and (.not (.cmp .lss (.var 8) (.int 0))) (.and (.not (.cmp .lss (.int 50001) (.var 1))) (.and (.not (.cmp .lss (.var 1) (.int 1))) (.and (.not (.cmp .lss (.int 50001) (.var 1))) (.not (.cmp .lss (.var 1) (.int 1))))))))))))))) (.cmp .eql (.fn 1 (.pr (.var 0) (.fn 6 (.pr (.fn 8 (.pr (.var 8) (.int 3))) (.int 0))))) (.int 1)))
theorem fact25 (ρ : Env) : E.B ρ f25 = true := by
  unfold f25
  rw [sm_B_imp]
  simp only [sm_B_and]
  rintro ⟨p0, p1, p2, p3, p4, p5, p6, p7, p8, p9, p10, p11, p12⟩
  have g0 := rows_get p0 (.var 8)
  clear p0
  simp only [sm_I_int, sm_I_fn6, sm_I_fn7, sm_I_fn8, sm_B_bool, sm_B_eql, sm_B_lss, sm_B_not, sm_B_and, sm_B_imp, sm_B_iff, sm_I_add_i64, sm_I_sub_i64, sm_I_mul_i64, sm_I_rem, sm_I_wr, sm_I_mx, sm_I_mn] at *
  try generalize E.I ρ (.var 8) = a0 at *
  try generalize E.I ρ (.var 1) = a1 at *
  try generalize E.I ρ (.fn 1 (.pr (.var 0) (.fn 6 (.pr (.fn 8 (.pr (.var 8) (.int 3))) (.int 2))))) = a2 at *
  try generalize E.I ρ (.fn 1 (.pr (.var 0) (.fn 6 (.pr (.fn 8 (.pr (.var 8) (.int 3))) (.int 1))))) = a3 at *
  try generalize E.I ρ (.fn 1 (.pr (.var 0) (.fn 6 (.pr (.fn 8 (.pr (.var 8) (.int 3))) (.int 0))))) = a4 at *
  try generalize E.I ρ (.var 9) = a5 at *
  omega
noncomputable def f26 : E := (.imp (.and (.fn 100 (.pr (.var 0) (.pr (.var 1) (.pr (.var 1) (.int 0))))) (.and (.cmp .lss (.var 8) (.var 1)) (.and (.not (.cmp .eql (.fn 1 (.pr (.var 0) (.fn 6 (.pr (.fn 8 (.pr (.var 8) (.int 3))) (.int 2))))) (.int 1))) (.and (.cmp .eql (.fn 1 (.pr (.var 0) (.fn 6 (.pr (.fn 8 (.pr (.var 8) (.int 3))) (.int 2))))) (.int 2)) (.and (.not (.cmp .eql (.fn 1 (.pr (.var 0) (.fn 6 (.pr (.fn 8 (.pr (.var 8) (.int 3))) (.int 1))))) (.int 0))) (.and (.cmp .eql (.fn 1 (.pr (.var 0) (.fn 6 (.pr (.fn 8 (.pr (.var 8) (.int 3))) (.int 1))))) (.int 1)) (.and (.not (.cmp .eql (.fn 1 (.pr (.var 0) (.fn 6 (.pr (.fn 8 (.pr (.var 8) (.int 3))) (.int 0))))) (.int 0))) (.and (.cmp .eql (.var 9) (.fn 8 (.pr (.var 8) (.int 2)))) (.and (.not (.cmp .lss (.var 1) (.var 8))) (.and (.not (.cmp .lss (.var 8) (.int 0))) (.and (.not (.cmp .lss (.int 50001) (.var 1))) (.and (.not (.cmp .lss (.var 1) (.int 1))) (.and (.not (.cmp .lss (.int 50001) (.var 1))) (.not (.cmp .lss (.var 1) (.int 1)))))))))))))))) (.cmp .eql (.fn 1 (.pr (.var 0) (.fn 6 (.pr (.fn 8 (.pr (.var 8) (.int 3))) (.int 0))))) (.int 1)))
theorem fact26 (ρ : Env) : E.B ρ f26 = true := by
  unfold f26
  rw [sm_B_imp]
  simp only [sm_B_and]
  rintro ⟨p0, p1, p2, p3, p4, p5, p6, p7, p8, p9, p10, p11, p12, p13⟩
  have g0 := rows_get p0 (.var 8)
  clear p0
  simp only [sm_I_int, sm_I_fn6, sm_I_fn7, sm_I_fn8, sm_B_bool, sm_B_eql, sm_B_lss, sm_B_not, sm_B_and, sm_B_imp, sm_B_iff, sm_I_add_i64, sm_I_sub_i64, sm_I_mul_i64, sm_I_rem, sm_I_wr, sm_I_mx, sm_I_mn] at *
  try generalize E.I ρ (.var 8) = a0 at *
  try generalize E.I ρ (.var 1) = a1 at *
  try generalize E.I ρ (.fn 1 (.pr (.var 0) (.fn 6 (.pr (.fn 8 (.pr (.var 8) (.int 3))) (.int 2))))) = a2 at *
  try generalize E.I ρ (.fn 1 (.pr (.var 0) (.fn 6 (.pr (.fn 8 (.pr (.var 8) (.int 3))) (.int 1))))) = a3 at *
  try generalize E.I ρ (.fn 1 (.pr (.var 0) (.fn 6 (.pr (.fn 8 (.pr (.var 8) (.int 3))) (.int 0))))) = a4 at *
  try generalize E.I ρ (.var 9) = a5 at *
  omega
noncomputable def f27 : E := (.imp (.and (.fn 100 (.pr (.var 0) (.pr (.var 1) (.pr (.var 1) (.int 0))))) (.and (.cmp .lss (.var 2) (.var 1)) (.and (.cmp .lss (.fn 1 (.pr (.var 0) (.fn 6 (.pr (.fn 8 (.pr (.var 2) (.int 3))) (.int 1))))) (.int 2)) (.and (.not (.cmp .eql (.fn 1 (.pr (.var 0) (.fn 6 (.pr (.fn 8 (.pr (.var 2) (.int 3))) (.int 0))))) (.fn 1 (.pr (.var 0) (.fn 6 (.pr (.fn 8 (.pr (.var 2) (.int 3))) (.int 1))))))) (.and (.not (.cmp .lss (.fn 1 (.pr (.var 0) (.fn 6 (.pr (.fn 8 (.pr (.var 2) (.int 3))) (.int 2))))) (.int 1))) (.and (.not (.cmp .lss (.int 50001) (.var 1))) (.and (.not (.cmp .lss (.var 1) (.int 1))) (.and (.not (.cmp .lss (.var 1) (.var 2))) (.and (.not (.cmp .lss (.var 2) (.int 0))) (.and (.not (.cmp .lss (.int 50001) (.var 1))) (.not (.cmp .lss (.var 1) (.int 1))))))))))))) (.not (.cmp .lss (.int 3) (.fn 1 (.pr (.var 0) (.fn 6 (.pr (.fn 8 (.pr (.var 2) (.int 3))) (.int 2))))))))
theorem fact27 (ρ : Env) : E.B ρ f27 = true := by
  unfold f27
  rw [sm_B_imp]
  simp only [sm_B_and]
  rintro ⟨p0, p1, p2, p3, p4, p5, p6, p7, p8, p9, p10⟩
  have g0 := rows_get p0 (.var 2)
  clear p0
  simp only [sm_I_int, sm_I_fn6, sm_I_fn7, sm_I_fn8, sm_B_bool, sm_B_eql, sm_B_lss, sm_B_not, sm_B_and, sm_B_imp, sm_B_iff, sm_I_add_i64, sm_I_sub_i64, sm_I_mul_i64, sm_I_rem, sm_I_wr, sm_I_mx, sm_I_mn] at *
  try generalize E.I ρ (.var 2) = a0 at *
  try generalize E.I ρ (.var 1) = a1 at *
  try generalize E.I ρ (.fn 1 (.pr (.var 0) (.fn 6 (.pr (.fn 8 (.pr (.var 2) (.int 3))) (.int 1))))) = a2 at *
  try generalize E.I ρ (.fn 1 (.pr (.var 0) (.fn 6 (.pr (.fn 8 (.pr (.var 2) (.int 3))) (.int 0))))) = a3 at *
  try generalize E.I ρ (.fn 1 (.pr (.var 0) (.fn 6 (.pr (.fn 8 (.pr (.var 2) (.int 3))) (.int 2))))) = a4 at *
  omega
noncomputable def f28 : E := (.imp (.and (.cmp .lss (.var 2) (.var 1)) (.and (.not (.cmp .lss (.int 50001) (.var 1))) (.and (.not (.cmp .lss (.var 1) (.int 1))) (.and (.not (.cmp .lss (.var 1) (.var 2))) (.and (.not (.cmp .lss (.var 2) (.int 0))) (.and (.not (.cmp .lss (.int 50001) (.var 1))) (.not (.cmp .lss (.var 1) (.int 1))))))))) (.not (.cmp .lss (.fn 7 (.pr (.var 1) (.ar .add .i64 (.var 2) (.int 1)))) (.int 0))))
theorem fact28 (ρ : Env) : E.B ρ f28 = true := by
  unfold f28
  rw [sm_B_imp]
  simp only [sm_B_and]
  rintro ⟨p0, p1, p2, p3, p4, p5, p6⟩
  simp only [sm_I_int, sm_I_fn6, sm_I_fn7, sm_I_fn8, sm_B_bool, sm_B_eql, sm_B_lss, sm_B_not, sm_B_and, sm_B_imp, sm_B_iff, sm_I_add_i64, sm_I_sub_i64, sm_I_mul_i64, sm_I_rem, sm_I_wr, sm_I_mx, sm_I_mn] at *
  try generalize E.I ρ (.var 2) = a0 at *
  try generalize E.I ρ (.var 1) = a1 at *
  obtain ⟨a2, ea2, qa2⟩ := cs_i64 (a0 + (1))
  try simp only [ea2] at *
  omega
noncomputable def f29 : E := (.imp (.and (.fn 100 (.pr (.var 0) (.pr (.var 1) (.pr (.var 1) (.int 0))))) (.and (.cmp .lss (.var 2) (.var 1)) (.and (.cmp .lss (.fn 1 (.pr (.var 0) (.fn 6 (.pr (.fn 8 (.pr (.var 2) (.int 3))) (.int 1))))) (.int 2)) (.and (.not (.cmp .eql (.fn 1 (.pr (.var 0) (.fn 6 (.pr (.fn 8 (.pr (.var 2) (.int 3))) (.int 0))))) (.fn 1 (.pr (.var 0) (.fn 6 (.pr (.fn 8 (.pr (.var 2) (.int 3))) (.int 1))))))) (.and (.not (.cmp .lss (.int 50001) (.var 1))) (.and (.not (.cmp .lss (.var 1) (.int 1))) (.and (.not (.cmp .lss (.var 1) (.var 2))) (.and (.not (.cmp .lss (.var 2) (.int 0))) (.and (.not (.cmp .lss (.int 50001) (.var 1))) (.not (.cmp .lss (.var 1) (.int 1)))))))))))) (.not (.cmp .lss (.fn 1 (.pr (.var 0) (.fn 6 (.pr (.fn 8 (.pr (.var 2) (.int 3))) (.int 2))))) (.int 1))))
theorem fact29 (ρ : Env) : E.B ρ f29 = true := by
  unfold f29
  rw [sm_B_imp]
  simp only [sm_B_and]
  rintro ⟨p0, p1, p2, p3, p4, p5, p6, p7, p8, p9⟩
  have g0 := rows_get p0 (.var 2)
  clear p0
  simp only [sm_I_int, sm_I_fn6, sm_I_fn7, sm_I_fn8, sm_B_bool, sm_B_eql, sm_B_lss, sm_B_not, sm_B_and, sm_B_imp, sm_B_iff, sm_I_add_i64, sm_I_sub_i64, sm_I_mul_i64, sm_I_rem, sm_I_wr, sm_I_mx, sm_I_mn] at *
  try generalize E.I ρ (.var 2) = a0 at *
  try generalize E.I ρ (.var 1) = a1 at *
  try generalize E.I ρ (.fn 1 (.pr (.var 0) (.fn 6 (.pr (.fn 8 (.pr (.var 2) (.int 3))) (.int 1))))) = a2 at *
  try generalize E.I ρ (.fn 1 (.pr (.var 0) (.fn 6 (.pr (.fn 8 (.pr (.var 2) (.int 3))) (.int 0))))) = a3 at *
  try generalize E.I ρ (.fn 1 (.pr (.var 0) (.fn 6 (.pr (.fn 8 (.pr (.var 2) (.int 3))) (.int 2))))) = a4 at *
  omega
noncomputable def f30 : E := (.imp (.and (.fn 100 (.pr (.var 0) (.pr (.var 1) (.pr (.var 1) (.int 0))))) (.and (.cmp .lss (.var 2) (.var 1)) (.and (.cmp .lss (.fn 1 (.pr (.var 0) (.fn 6 (.pr (.fn 8 (.pr (.var 2) (.int 3))) (.int 1))))) (.int 2)) (.and (.not (.cmp .lss (.int 50001) (.var 1))) (.and (.not (.cmp .lss (.var 1) (.int 1))) (.and (.not (.cmp .lss (.var 1) (.var 2))) (.and (.not (.cmp .lss (.var 2) (.int 0))) (.and (.not (.cmp .lss (.int 50001) (.var 1))) (.not (.cmp .lss (.var 1) (.int 1))))))))))) (.not (.cmp .eql (.fn 1 (.pr (.var 0) (.fn 6 (.pr (.fn 8 (.pr (.var 2) (.int 3))) (.int 0))))) (.fn 1 (.pr (.var 0) (.fn 6 (.pr (.fn 8 (.pr (.var 2) (.int 3))) (.int 1))))))))
theorem fact30 (ρ : Env) : E.B ρ f30 = true := by
  unfold f30
  rw [sm_B_imp]
  simp only [sm_B_and]
  rintro ⟨p0, p1, p2, p3, p4, p5, p6, p7, p8⟩
  have g0 := rows_get p0 (.var 2)
  clear p0
  simp only [sm_I_int, sm_I_fn6, sm_I_fn7, sm_I_fn8, sm_B_bool, sm_B_eql, sm_B_lss, sm_B_not, sm_B_and, sm_B_imp, sm_B_iff, sm_I_add_i64, sm_I_sub_i64, sm_I_mul_i64, sm_I_rem, sm_I_wr, sm_I_mx, sm_I_mn] at *
  try generalize E.I ρ (.var 2) = a0 at *
  try generalize E.I ρ (.var 1) = a1 at *
  try generalize E.I ρ (.fn 1 (.pr (.var 0) (.fn 6 (.pr (.fn 8 (.pr (.var 2) (.int 3))) (.int 1))))) = a2 at *
  try generalize E.I ρ (.fn 1 (.pr (.var 0) (.fn 6 (.pr (.fn 8 (.pr (.var 2) (.int 3))) (.int 0))))) = a3 at *
  omega
noncomputable def f31 : E := (.imp (.and (.fn 100 (.pr (.var 0) (.pr (.var 1) (.pr (.var 1) (.int 0))))) (.and (.cmp .lss (.var 2) (.var 1)) (.and (.not (.cmp .lss (.int 50001) (.var 1))) (.and (.not (.cmp .lss (.var 1) (.int 1))) (.and (.not (.cmp .lss (.var 1) (.var 2))) (.and (.not (.cmp .lss (.var 2) (.int 0))) (.and (.not (.cmp .lss (.int 50001) (.var 1))) (.not (.cmp .lss (.var 1) (.int 1)))))))))) (.cmp .lss (.fn 1 (.pr (.var 0) (.fn 6 (.pr (.fn 8 (.pr (.var 2) (.int 3))) (.int 1))))) (.int 2)))
theorem fact31 (ρ : Env) : E.B ρ f31 = true := by
  unfold f31
  rw [sm_B_imp]
  simp only [sm_B_and]
  rintro ⟨p0, p1, p2, p3, p4, p5, p6, p7⟩
  have g0 := rows_get p0 (.var 2)
  clear p0
  simp only [sm_I_int, sm_I_fn6, sm_I_fn7, sm_I_fn8, sm_B_bool, sm_B_eql, sm_B_lss, sm_B_not, sm_B_and, sm_B_imp, sm_B_iff, sm_I_add_i64, sm_I_sub_i64, sm_I_mul_i64, sm_I_rem, sm_I_wr, sm_I_mx, sm_I_mn] at *
  try generalize E.I ρ (.var 2) = a0 at *
  try generalize E.I ρ (.var 1) = a1 at *
  try generalize E.I ρ (.fn 1 (.pr (.var 0) (.fn 6 (.pr (.fn 8 (.pr (.var 2) (.int 3))) (.int 1))))) = a2 at *
  omega
noncomputable def f32 : E := (.imp (.and (.fn 100 (.pr (.var 0) (.pr (.var 1) (.pr (.var 1) (.int 0))))) (.and (.cmp .lss (.var 8) (.var 1)) (.and (.cmp .eql (.fn 1 (.pr (.var 0) (.fn 6 (.pr (.fn 8 (.pr (.var 8) (.int 3))) (.int 2))))) (.int 1)) (.and (.not (.cmp .eql (.fn 1 (.pr (.var 0) (.fn 6 (.pr (.fn 8 (.pr (.var 8) (.int 3))) (.int 0))))) (.int 0))) (.and (.not (.cmp .eql (.fn 1 (.pr (.var 0) (.fn 6 (.pr (.fn 8 (.pr (.var 8) (.int 3))) (.int 1))))) (.int 0))) (.and (.cmp .eql (.var 9) (.fn 8 (.pr (.var 8) (.int 2)))) (.and (.not (.cmp .lss (.var 1) (.var 8))) (.and (.not (.cmp .lss (.var 8) (.int 0))) (.and (.not (.cmp .lss (.int 50001) (.var 1))) (.and (.not (.cmp .lss (.var 1) (.int 1))) (.and (.not (.cmp .lss (.int 50001) (.var 1))) (.not (.cmp .lss (.var 1) (.int 1)))))))))))))) (.cmp .eql (.fn 1 (.pr (.var 0) (.fn 6 (.pr (.fn 8 (.pr (.var 8) (.int 3))) (.int 1))))) (.int 1)))
theorem fact32 (ρ : Env) : E.B ρ f32 = true := by
  unfold f32
  rw [sm_B_imp]
  simp only [sm_B_and]
  rintro ⟨p0, p1, p2, p3, p4, p5, p6, p7, p8, p9, p10, p11⟩
  have g0 := rows_get p0 (.var 8)
  clear p0
  simp only [sm_I_int, sm_I_fn6, sm_I_fn7, sm_I_fn8, sm_B_bool, sm_B_eql, sm_B_lss, sm_B_not, sm_B_and, sm_B_imp, sm_B_iff, sm_I_add_i64, sm_I_sub_i64, sm_I_mul_i64, sm_I_rem, sm_I_wr, sm_I_mx, sm_I_mn] at *
  try generalize E.I ρ (.var 8) = a0 at *
  try generalize E.I ρ (.var 1) = a1 at *
  try generalize E.I ρ (.fn 1 (.pr (.var 0) (.fn 6 (.pr (.fn 8 (.pr (.var 8) (.int 3))) (.int 2))))) = a2 at *
  try generalize E.I ρ (.fn 1 (.pr (.var 0) (.fn 6 (.pr (.fn 8 (.pr (.var 8) (.int 3))) (.int 0))))) = a3 at *
  try generalize E.I ρ (.fn 1 (.pr (.var 0) (.fn 6 (.pr (.fn 8 (.pr (.var 8) (.int 3))) (.int 1))))) = a4 at *
  try generalize E.I ρ (.var 9) = a5 at *
  omega
noncomputable def f33 : E := (.imp (.and (.fn 100 (.pr (.var 0) (.pr (.var 1) (.pr (.var 1) (.int 0))))) (.and (.cmp .lss (.var 8) (.var 1)) (.and (.not (.cmp .eql (.fn 1 (.pr (.var 0) (.fn 6 (.pr (.fn 8 (.pr (.var 8) (.int 3))) (.int 2))))) (.int 1))) (.and (.cmp .eql (.fn 1 (.pr (.var 0) (.fn 6 (.pr (.fn 8 (.pr (.var 8) (.int 3))) (.int 2))))) (.int 2)) (.and (.not (.cmp .eql (.fn 1 (.pr (.var 0) (.fn 6 (.pr (.fn 8 (.pr (.var 8) (.int 3))) (.int 1))))) (.int 0))) (.and (.cmp .eql (.var 9) (.fn 8 (.pr (.var 8) (.int 2)))) (.and (.not (.cmp .lss (.var 1) (.var 8))) (.and (.not (.cmp .lss (.var 8) (.int 0))) (.and (.not (.cmp .lss (.int 50001) (.var 1))) (.and (.not (.cmp .lss (.var 1) (.int 1))) (.and (.not (.cmp .lss (.int 50001) (.var 1))) (.not (.cmp .lss (.var 1) (.int 1)))))))))))))) (.cmp .eql (.fn 1 (.pr (.var 0) (.fn 6 (.pr (.fn 8 (.pr (.var 8) (.int 3))) (.int 1))))) (.int 1)))
theorem fact33 (ρ : Env) : E.B ρ f33 = true := by
  unfold f33
  rw [sm_B_imp]
  simp only [sm_B_and]
  rintro ⟨p0, p1, p2, p3, p4, p5, p6, p7, p8, p9, p10, p11⟩
  have g0 := rows_get p0 (.var 8)
  clear p0
  simp only [sm_I_int, sm_I_fn6, sm_I_fn7, sm_I_fn8, sm_B_bool, sm_B_eql, sm_B_lss, sm_B_not, sm_B_and, sm_B_imp, sm_B_iff, sm_I_add_i64, sm_I_sub_i64, sm_I_mul_i64, sm_I_rem, sm_I_wr, sm_I_mx, sm_I_mn] at *
  try generalize E.I ρ (.var 8) = a0 at *
  try generalize E.I ρ (.var 1) = a1 at *
  try generalize E.I ρ (.fn 1 (.pr (.var 0) (.fn 6 (.pr (.fn 8 (.pr (.var 8) (.int 3))) (.int 2))))) = a2 at *
  try generalize E.I ρ (.fn 1 (.pr (.var 0) (.fn 6 (.pr (.fn 8 (.pr (.var 8) (.int 3))) (.int 1))))) = a3 at *
  try generalize E.I ρ (.var 9) = a4 at *
  omega
noncomputable def f34 : E := (.imp (.and (.fn 100 (.pr (.var 0) (.pr (.var 1) (.pr (.var 1) (.int 0))))) (.and (.cmp .lss (.var 8) (.var 1)) (.and (.not (.cmp .eql (.fn 1 (.pr (.var 0) (.fn 6 (.pr (.fn 8 (.pr (.var 8) (.int 3))) (.int 2))))) (.int 1))) (.and (.not (.cmp .eql (.fn 1 (.pr (.var 0) (.fn 6 (.pr (.fn 8 (.pr (.var 8) (.int 3))) (.int 2))))) (.int 2))) (.and (.cmp .eql (.fn 1 (.pr (.var 0) (.fn 6 (.pr (.fn 8 (.pr (.var 8) (.int 3))) (.int 0))))) (.int 0)) (.and (.not (.cmp .eql (.fn 1 (.pr (.var 0) (.fn 6 (.pr (.fn 8 (.pr (.var 8) (.int 3))) (.int 1))))) (.int 0))) (.and (.cmp .eql (.var 9) (.fn 8 (.pr (.var 8) (.int 2)))) (.and (.not (.cmp .lss (.var 1) (.var 8))) (.and (.not (.cmp .lss (.var 8) (.int 0))) (.and (.not (.cmp .lss (.int 50001) (.var 1))) (.and (.not (.cmp .lss (.var 1) (.int 1))) (.and (.not (.cmp .lss (.int 50001) (.var 1))) (.not (.cmp .lss (.var 1) (.int 1))))))))))))))) (.cmp .eql (.fn 1 (.pr (.var 0) (.fn 6 (.pr (.fn 8 (.pr (.var 8) (.int 3))) (.int 1))))) (.int 1)))
theorem fact34 (ρ : Env) : E.B ρ f34 = true := by
  unfold f34
  rw [sm_B_imp]
  simp only [sm_B_and]
  rintro ⟨p0, p1, p2, p3, p4, p5, p6, p7, p8, p9, p10, p11, p12⟩
  have g0 := rows_get p0 (.var 8)
  clear p0
  simp only [sm_I_int, sm_I_fn6, sm_I_fn7, sm_I_fn8, sm_B_bool, sm_B_eql, sm_B_lss, sm_B_not, sm_B_and, sm_B_imp, sm_B_iff, sm_I_add_i64, sm_I_sub_i64, sm_I_mul_i64, sm_I_rem, sm_I_wr, sm_I_mx, sm_I_mn] at *
  try generalize E.I ρ (.var 8) = a0 at *
  try generalize E.I ρ (.var 1) = a1 at *
  try generalize E.I ρ (.fn 1 (.pr (.var 0) (.fn 6 (.pr (.fn 8 (.pr (.var 8) (.int 3))) (.int 2))))) = a2 at *
  try generalize E.I ρ (.fn 1 (.pr (.var 0) (.fn 6 (.pr (.fn 8 (.pr (.var 8) (.int 3))) (.int 0))))) = a3 at *
  try generalize E.I ρ (.fn 1 (.pr (.var 0) (.fn 6 (.pr (.fn 8 (.pr (.var 8) (.int 3))) (.int 1))))) = a4 at *
  try generalize E.I ρ (.var 9) = a5 at *
  omega
noncomputable def f35 : E := (.imp (.and (.fn 100 (.pr (.var 0) (.pr (.var 1) (.pr (.var 1) (.int 0))))) (.and (.cmp .lss (.var 8) (.var 1)) (.and (.not (.cmp .eql (.fn 1 (.pr (.var 0) (.fn 6 (.pr (.fn 8 (.pr (.var 8) (.int 3))) (.int 2))))) (.int 1))) (.and (.not (.cmp .eql (.fn 1 (.pr (.var 0) (.fn 6 (.pr (.fn 8 (.pr (.var 8) (.int 3))) (.int 2))))) (.int 2))) (.and (.not (.cmp .eql (.fn 1 (.pr (.var 0) (.fn 6 (.pr (.fn 8 (.pr (.var 8) (.int 3))) (.int 0))))) (.int 0))) (.and (.cmp .eql (.fn 1 (.pr (.var 0) (.fn 6 (.pr (.fn 8 (.pr (.var 8) (.int 3))) (.int 0))))) (.int 1)) (.and (.not (.cmp .eql (.fn 1 (.pr (.var 0) (.fn 6 (.pr (.fn 8 (.pr (.var 8) (.int 3))) (.int 1))))) (.int 0))) (.and (.cmp .eql (.var 9) (.fn 8 (.pr (.var 8) (.int 2)))) (.and (.not (.cmp .lss (.var 1) (.var 8))) (.and (.not (.cmp .lss (.var 8) (.int 0))) (.and (.not (.cmp .lss (.int 50001) (.var 1))) (.and (.not (.cmp .lss (.var 1) (.int 1))) (.and (.not (.cmp .lss (.int 50001) (.var 1))) (.not (.cmp .lss (.var 1) (.int 1)))))))))))))))) (.cmp .eql (.fn 1 (.pr (.var 0) (.fn 6 (.pr (.fn 8 (.pr (.var 8) (.int 3))) (.int 1))))) (.int 1)))
theorem fact35 (ρ : Env) : E.B ρ f35 = true := by
  unfold f35
  rw [sm_B_imp]
  simp only [sm_B_and]
  rintro ⟨p0, p1, p2, p3, p4, p5, p6, p7, p8, p9, p10, p11, p12, p13⟩
  have g0 := rows_get p0 (.var 8)
  clear p0
  simp only [sm_I_int, sm_I_fn6, sm_I_fn7, sm_I_fn8, sm_B_bool, sm_B_eql, sm_B_lss, sm_B_not, sm_B_and, sm_B_imp, sm_B_iff, sm_I_add_i64, sm_I_sub_i64, sm_I_mul_i64, sm_I_rem, sm_I_wr, sm_I_mx, sm_I_mn] at *
  try generalize E.I ρ (.var 8) = a0 at *
  try generalize E.I ρ (.var 1) = a1 at *
  try generalize E.I ρ (.fn 1 (.pr (.var 0) (.fn 6 (.pr (.fn 8 (.pr (.var 8) (.int 3))) (.int 2))))) = a2 at *
  try generalize E.I ρ (.fn 1 (.pr (.var 0) (.fn 6 (.pr (.fn 8 (.pr (.var 8) (.int 3))) (.int 0))))) = a3 at *
  try generalize E.I ρ (.fn 1 (.pr (.var 0) (.fn 6 (.pr (.fn 8 (.pr (.var 8) (.int 3))) (.int 1))))) = a4 at *
  try generalize E.I ρ (.var 9) = a5 at *
  omega
noncomputable def f36 : E := (.imp (.and (.fn 100 (.pr (.var 0) (.pr (.var 1) (.pr (.var 1) (.int 0))))) (.and (.cmp .lss (.var 2) (.var 1)) (.and (.not (.cmp .eql (.fn 1 (.pr (.var 0) (.fn 6 (.pr (.fn 8 (.pr (.var 2) (.int 3))) (.int 0))))) (.fn 1 (.pr (.var 0) (.fn 6 (.pr (.fn 8 (.pr (.var 2) (.int 3))) (.int 1))))))) (.and (.not (.cmp .lss (.fn 1 (.pr (.var 0) (.fn 6 (.pr (.fn 8 (.pr (.var 2) (.int 3))) (.int 2))))) (.int 1))) (.and (.not (.cmp .lss (.int 50001) (.var 1))) (.and (.not (.cmp .lss (.var 1) (.int 1))) (.and (.not (.cmp .lss (.var 1) (.var 2))) (.and (.not (.cmp .lss (.var 2) (.int 0))) (.and (.not (.cmp .lss (.int 50001) (.var 1))) (.not (.cmp .lss (.var 1) (.int 1)))))))))))) (.not (.cmp .lss (.int 3) (.fn 1 (.pr (.var 0) (.fn 6 (.pr (.fn 8 (.pr (.var 2) (.int 3))) (.int 2))))))))
theorem fact36 (ρ : Env) : E.B ρ f36 = true := by
  unfold f36
  rw [sm_B_imp]
  simp only [sm_B_and]
  rintro ⟨p0, p1, p2, p3, p4, p5, p6, p7, p8, p9⟩
  have g0 := rows_get p0 (.var 2)
  clear p0
  simp only [sm_I_int, sm_I_fn6, sm_I_fn7, sm_I_fn8, sm_B_bool, sm_B_eql, sm_B_lss, sm_B_not, sm_B_and, sm_B_imp, sm_B_iff, sm_I_add_i64, sm_I_sub_i64, sm_I_mul_i64, sm_I_rem, sm_I_wr, sm_I_mx, sm_I_mn] at *
  try generalize E.I ρ (.var 2) = a0 at *
  try generalize E.I ρ (.var 1) = a1 at *
  try generalize E.I ρ (.fn 1 (.pr (.var 0) (.fn 6 (.pr (.fn 8 (.pr (.var 2) (.int 3))) (.int 0))))) = a2 at *
  try generalize E.I ρ (.fn 1 (.pr (.var 0) (.fn 6 (.pr (.fn 8 (.pr (.var 2) (.int 3))) (.int 1))))) = a3 at *
  try generalize E.I ρ (.fn 1 (.pr (.var 0) (.fn 6 (.pr (.fn 8 (.pr (.var 2) (.int 3))) (.int 2))))) = a4 at *
  omega
noncomputable def f37 : E := (.imp (.and (.fn 100 (.pr (.var 0) (.pr (.var 1) (.pr (.var 1) (.int 0))))) (.and (.cmp .lss (.var 2) (.var 1)) (.and (.not (.cmp .eql (.fn 1 (.pr (.var 0) (.fn 6 (.pr (.fn 8 (.pr (.var 2) (.int 3))) (.int 0))))) (.fn 1 (.pr (.var 0) (.fn 6 (.pr (.fn 8 (.pr (.var 2) (.int 3))) (.int 1))))))) (.and (.not (.cmp .lss (.int 50001) (.var 1))) (.and (.not (.cmp .lss (.var 1) (.int 1))) (.and (.not (.cmp .lss (.var 1) (.var 2))) (.and (.not (.cmp .lss (.var 2) (.int 0))) (.and (.not (.cmp .lss (.int 50001) (.var 1))) (.not (.cmp .lss (.var 1) (.int 1))))))))))) (.not (.cmp .lss (.fn 1 (.pr (.var 0) (.fn 6 (.pr (.fn 8 (.pr (.var 2) (.int 3))) (.int 2))))) (.int 1))))
theorem fact37 (ρ : Env) : E.B ρ f37 = true := by
  unfold f37
  rw [sm_B_imp]
  simp only [sm_B_and]
  rintro ⟨p0, p1, p2, p3, p4, p5, p6, p7, p8⟩
  have g0 := rows_get p0 (.var 2)
  clear p0
  simp only [sm_I_int, sm_I_fn6, sm_I_fn7, sm_I_fn8, sm_B_bool, sm_B_eql, sm_B_lss, sm_B_not, sm_B_and, sm_B_imp, sm_B_iff, sm_I_add_i64, sm_I_sub_i64, sm_I_mul_i64, sm_I_rem, sm_I_wr, sm_I_mx, sm_I_mn] at *
  try generalize E.I ρ (.var 2) = a0 at *
  try generalize E.I ρ (.var 1) = a1 at *
  try generalize E.I ρ (.fn 1 (.pr (.var 0) (.fn 6 (.pr (.fn 8 (.pr (.var 2) (.int 3))) (.int 0))))) = a2 at *
  try generalize E.I ρ (.fn 1 (.pr (.var 0) (.fn 6 (.pr (.fn 8 (.pr (.var 2) (.int 3))) (.int 1))))) = a3 at *
  try generalize E.I ρ (.fn 1 (.pr (.var 0) (.fn 6 (.pr (.fn 8 (.pr (.var 2) (.int 3))) (.int 2))))) = a4 at *
  omega
noncomputable def f38 : E := (.imp (.and (.fn 100 (.pr (.var 0) (.pr (.var 1) (.pr (.var 1) (.int 0))))) (.and (.cmp .lss (.var 2) (.var 1)) (.and (.not (.cmp .lss (.int 50001) (.var 1))) (.and (.not (.cmp .lss (.var 1) (.int 1))) (.and (.not (.cmp .lss (.var 1) (.var 2))) (.and (.not (.cmp .lss (.var 2) (.int 0))) (.and (.not (.cmp .lss (.int 50001) (.var 1))) (.not (.cmp .lss (.var 1) (.int 1)))))))))) (.not (.cmp .eql (.fn 1 (.pr (.var 0) (.fn 6 (.pr (.fn 8 (.pr (.var 2) (.int 3))) (.int 0))))) (.fn 1 (.pr (.var 0) (.fn 6 (.pr (.fn 8 (.pr (.var 2) (.int 3))) (.int 1))))))))
theorem fact38 (ρ : Env) : E.B ρ f38 = true := by
  unfold f38
  rw [sm_B_imp]
  simp only [sm_B_and]
  rintro ⟨p0, p1, p2, p3, p4, p5, p6, p7⟩
  have g0 := rows_get p0 (.var 2)
  clear p0
  simp only [sm_I_int, sm_I_fn6, sm_I_fn7, sm_I_fn8, sm_B_bool, sm_B_eql, sm_B_lss, sm_B_not, sm_B_and, sm_B_imp, sm_B_iff, sm_I_add_i64, sm_I_sub_i64, sm_I_mul_i64, sm_I_rem, sm_I_wr, sm_I_mx, sm_I_mn] at *
  try generalize E.I ρ (.var 2) = a0 at *
  try generalize E.I ρ (.var 1) = a1 at *
  try generalize E.I ρ (.fn 1 (.pr (.var 0) (.fn 6 (.pr (.fn 8 (.pr (.var 2) (.int 3))) (.int 0))))) = a2 at *
  try generalize E.I ρ (.fn 1 (.pr (.var 0) (.fn 6 (.pr (.fn 8 (.pr (.var 2) (.int 3))) (.int 1))))) = a3 at *
  omega
noncomputable def f39 : E := (.imp (.and (.fn 100 (.pr (.var 0) (.pr (.var 1) (.pr (.var 1) (.int 0))))) (.and (.cmp .lss (.var 8) (.var 1)) (.and (.cmp .eql (.fn 1 (.pr (.var 0) (.fn 6 (.pr (.fn 8 (.pr (.var 8) (.int 3))) (.int 2))))) (.int 1)) (.and (.not (.cmp .eql (.fn 1 (.pr (.var 0) (.fn 6 (.pr (.fn 8 (.pr (.var 8) (.int 3))) (.int 0))))) (.int 0))) (.and (.cmp .eql (.var 9) (.fn 8 (.pr (.var 8) (.int 2)))) (.and (.not (.cmp .lss (.var 1) (.var 8))) (.and (.not (.cmp .lss (.var 8) (.int 0))) (.and (.not (.cmp .lss (.int 50001) (.var 1))) (.and (.not (.cmp .lss (.var 1) (.int 1))) (.and (.not (.cmp .lss (.int 50001) (.var 1))) (.not (.cmp .lss (.var 1) (.int 1))))))))))))) (.cmp .eql (.fn 1 (.pr (.var 0) (.fn 6 (.pr (.fn 8 (.pr (.var 8) (.int 3))) (.int 1))))) (.int 0)))
theorem fact39 (ρ : Env) : E.B ρ f39 = true := by
  unfold f39
  rw [sm_B_imp]
  simp only [sm_B_and]
  rintro ⟨p0, p1, p2, p3, p4, p5, p6, p7, p8, p9, p10⟩
  have g0 := rows_get p0 (.var 8)
  clear p0
  simp only [sm_I_int, sm_I_fn6, sm_I_fn7, sm_I_fn8, sm_B_bool, sm_B_eql, sm_B_lss, sm_B_not, sm_B_and, sm_B_imp, sm_B_iff, sm_I_add_i64, sm_I_sub_i64, sm_I_mul_i64, sm_I_rem, sm_I_wr, sm_I_mx, sm_I_mn] at *
  try generalize E.I ρ (.var 8) = a0 at *
  try generalize E.I ρ (.var 1) = a1 at *
  try generalize E.I ρ (.fn 1 (.pr (.var 0) (.fn 6 (.pr (.fn 8 (.pr (.var 8) (.int 3))) (.int 2))))) = a2 at *
  try generalize E.I ρ (.fn 1 (.pr (.var 0) (.fn 6 (.pr (.fn 8 (.pr (.var 8) (.int 3))) (.int 0))))) = a3 at *
  try generalize E.I ρ (.var 9) = a4 at *
  try generalize E.I ρ (.fn 1 (.pr (.var 0) (.fn 6 (.pr (.fn 8 (.pr (.var 8) (.int 3))) (.int 1))))) = a5 at *
  omega
noncomputable def f40 : E := (.imp (.and (.fn 100 (.pr (.var 0) (.pr (.var 1) (.pr (.var 1) (.int 0))))) (.and (.cmp .lss (.var 8) (.var 1)) (.and (.cmp .eql (.fn 1 (.pr (.var 0) (.fn 6 (.pr (.fn 8 (.pr (.var 8) (.int 3))) (.int 2))))) (.int 1)) (.and (.not (.cmp .eql (.fn 1 (.pr (.var 0) (.fn 6 (.pr (.fn 8 (.pr (.var 8) (.int 3))) (.int 0))))) (.int 0))) (.and (.cmp .eql (.var 9) (.fn 8 (.pr (.var 8) (.int 2)))) (.and (.not (.cmp .lss (.var 1) (.var 8))) (.and (.not (.cmp .lss (.var 8) (.int 0))) (.and (.not (.cmp .lss (.int 50001) (.var 1))) (.and (.not (.cmp .lss (.var 1) (.int 1))) (.and (.not (.cmp .lss (.int 50001) (.var 1))) (.not (.cmp .lss (.var 1) (.int 1))))))))))))) (.not (.cmp .eql (.fn 1 (.pr (.var 0) (.fn 6 (.pr (.fn 8 (.pr (.var 8) (.int 3))) (.int 1))))) (.int 0))))
theorem fact40 (ρ : Env) : E.B ρ f40 = true := by
  unfold f40
  rw [sm_B_imp]
  simp only [sm_B_and]
  rintro ⟨p0, p1, p2, p3, p4, p5, p6, p7, p8, p9, p10⟩
  have g0 := rows_get p0 (.var 8)
  clear p0
  simp only [sm_I_int, sm_I_fn6, sm_I_fn7, sm_I_fn8, sm_B_bool, sm_B_eql, sm_B_lss, sm_B_not, sm_B_and, sm_B_imp, sm_B_iff, sm_I_add_i64, sm_I_sub_i64, sm_I_mul_i64, sm_I_rem, sm_I_wr, sm_I_mx, sm_I_mn] at *
  try generalize E.I ρ (.var 8) = a0 at *
  try generalize E.I ρ (.var 1) = a1 at *
  try generalize E.I ρ (.fn 1 (.pr (.var 0) (.fn 6 (.pr (.fn 8 (.pr (.var 8) (.int 3))) (.int 2))))) = a2 at *
  try generalize E.I ρ (.fn 1 (.pr (.var 0) (.fn 6 (.pr (.fn 8 (.pr (.var 8) (.int 3))) (.int 0))))) = a3 at *
  try generalize E.I ρ (.var 9) = a4 at *
  try generalize E.I ρ (.fn 1 (.pr (.var 0) (.fn 6 (.pr (.fn 8 (.pr (.var 8) (.int 3))) (.int 1))))) = a5 at *
  omega
noncomputable def f41 : E := (.imp (.and (.cmp .eql (.var 9) (.fn 8 (.pr (.var 8) (.int 2)))) (.and (.not (.cmp .lss (.var 1) (.var 8))) (.and (.not (.cmp .lss (.var 8) (.int 0))) (.and (.not (.cmp .lss (.int 50001) (.var 1))) (.and (.not (.cmp .lss (.var 1) (.int 1))) (.and (.not (.cmp .lss (.int 50001) (.var 1))) (.not (.cmp .lss (.var 1) (.int 1))))))))) (.not (.cmp .lss (.ar .add .i64 (.var 8) (.int 1)) (.int 0))))
theorem fact41 (ρ : Env) : E.B ρ f41 = true := by
  unfold f41
  rw [sm_B_imp]
  simp only [sm_B_and]
  rintro ⟨p0, p1, p2, p3, p4, p5, p6⟩
  simp only [sm_I_int, sm_I_fn6, sm_I_fn7, sm_I_fn8, sm_B_bool, sm_B_eql, sm_B_lss, sm_B_not, sm_B_and, sm_B_imp, sm_B_iff, sm_I_add_i64, sm_I_sub_i64, sm_I_mul_i64, sm_I_rem, sm_I_wr, sm_I_mx, sm_I_mn] at *
  try generalize E.I ρ (.var 9) = a0 at *
  try generalize E.I ρ (.var 8) = a1 at *
  try generalize E.I ρ (.var 1) = a2 at *
  obtain ⟨a3, ea3, qa3⟩ := cs_i64 (a1 + (1))
  try simp only [ea3] at *
  omega
noncomputable def f42 : E := (.imp (.and (.fn 100 (.pr (.var 0) (.pr (.var 1) (.pr (.var 1) (.int 0))))) (.and (.cmp .lss (.var 8) (.var 1)) (.and (.cmp .eql (.fn 1 (.pr (.var 0) (.fn 6 (.pr (.fn 8 (.pr (.var 8) (.int 3))) (.int 2))))) (.int 1)) (.and (.cmp .eql (.fn 1 (.pr (.var 0) (.fn 6 (.pr (.fn 8 (.pr (.var 8) (.int 3))) (.int 0))))) (.int 0)) (.and (.cmp .eql (.var 9) (.fn 8 (.pr (.var 8) (.int 2)))) (.and (.not (.cmp .lss (.var 1) (.var 8))) (.and (.not (.cmp .lss (.var 8) (.int 0))) (.and (.not (.cmp .lss (.int 50001) (.var 1))) (.and (.not (.cmp .lss (.var 1) (.int 1))) (.and (.not (.cmp .lss (.int 50001) (.var 1))) (.not (.cmp .lss (.var 1) (.int 1))))))))))))) (.not (.cmp .eql (.fn 1 (.pr (.var 0) (.fn 6 (.pr (.fn 8 (.pr (.var 8) (.int 3))) (.int 1))))) (.int 0))))
theorem fact42 (ρ : Env) : E.B ρ f42 = true := by
  unfold f42
  rw [sm_B_imp]
  simp only [sm_B_and]
  rintro ⟨p0, p1, p2, p3, p4, p5, p6, p7, p8, p9, p10⟩
  have g0 := rows_get p0 (.var 8)
  clear p0
  simp only [sm_I_int, sm_I_fn6, sm_I_fn7, sm_I_fn8, sm_B_bool, sm_B_eql, sm_B_lss, sm_B_not, sm_B_and, sm_B_imp, sm_B_iff, sm_I_add_i64, sm_I_sub_i64, sm_I_mul_i64, sm_I_rem, sm_I_wr, sm_I_mx, sm_I_mn] at *
  try generalize E.I ρ (.var 8) = a0 at *
  try generalize E.I ρ (.var 1) = a1 at *
  try generalize E.I ρ (.fn 1 (.pr (.var 0) (.fn 6 (.pr (.fn 8 (.pr (.var 8) (.int 3))) (.int 2))))) = a2 at *
  try generalize E.I ρ (.fn 1 (.pr (.var 0) (.fn 6 (.pr (.fn 8 (.pr (.var 8) (.int 3))) (.int 0))))) = a3 at *
  try generalize E.I ρ (.var 9) = a4 at *
  try generalize E.I ρ (.fn 1 (.pr (.var 0) (.fn 6 (.pr (.fn 8 (.pr (.var 8) (.int 3))) (.int 1))))) = a5 at *
  omega
noncomputable def f43 : E := (.imp (.and (.fn 100 (.pr (.var 0) (.pr (.var 1) (.pr (.var 1) (.int 0))))) (.and (.cmp .lss (.var 8) (.var 1)) (.and (.not (.cmp .eql (.fn 1 (.pr (.var 0) (.fn 6 (.pr (.fn 8 (.pr (.var 8) (.int 3))) (.int 2))))) (.int 1))) (.and (.cmp .eql (.fn 1 (.pr (.var 0) (.fn 6 (.pr (.fn 8 (.pr (.var 8) (.int 3))) (.int 2))))) (.int 2)) (.and (.not (.cmp .eql (.fn 1 (.pr (.var 0) (.fn 6 (.pr (.fn 8 (.pr (.var 8) (.int 3))) (.int 1))))) (.int 0))) (.and (.not (.cmp .eql (.fn 1 (.pr (.var 0) (.fn 6 (.pr (.fn 8 (.pr (.var 8) (.int 3))) (.int 0))))) (.int 0))) (.and (.cmp .eql (.var 9) (.fn 8 (.pr (.var 8) (.int 2)))) (.and (.not (.cmp .lss (.var 1) (.var 8))) (.and (.not (.cmp .lss (.var 8) (.int 0))) (.and (.not (.cmp .lss (.int 50001) (.var 1))) (.and (.not (.cmp .lss (.var 1) (.int 1))) (.and (.not (.cmp .lss (.int 50001) (.var 1))) (.not (.cmp .lss (.var 1) (.int 1))))))))))))))) (.cmp .eql (.fn 1 (.pr (.var 0) (.fn 6 (.pr (.fn 8 (.pr (.var 8) (.int 3))) (.int 0))))) (.int 1)))
theorem fact43 (ρ : Env) : E.B ρ f43 = true := by
  unfold f43
  rw [sm_B_imp]
  simp only [sm_B_and]
  rintro ⟨p0, p1, p2, p3, p4, p5, p6, p7, p8, p9, p10, p11, p12⟩
  have g0 := rows_get p0 (.var 8)
  clear p0
  simp only [sm_I_int, sm_I_fn6, sm_I_fn7, sm_I_fn8, sm_B_bool, sm_B_eql, sm_B_lss, sm_B_not, sm_B_and, sm_B_imp, sm_B_iff, sm_I_add_i64, sm_I_sub_i64, sm_I_mul_i64, sm_I_rem, sm_I_wr, sm_I_mx, sm_I_mn] at *
  try generalize E.I ρ (.var 8) = a0 at *
  try generalize E.I ρ (.var 1) = a1 at *
  try generalize E.I ρ (.fn 1 (.pr (.var 0) (.fn 6 (.pr (.fn 8 (.pr (.var 8) (.int 3))) (.int 2))))) = a2 at *
  try generalize E.I ρ (.fn 1 (.pr (.var 0) (.fn 6 (.pr (.fn 8 (.pr (.var 8) (.int 3))) (.int 1))))) = a3 at *
  try generalize E.I ρ (.fn 1 (.pr (.var 0) (.fn 6 (.pr (.fn 8 (.pr (.var 8) (.int 3))) (.int 0))))) = a4 at *
  try generalize E.I ρ (.var 9) = a5 at *
  omega
noncomputable def f44 : E := (.imp (.and (.fn 100 (.pr (.var 0) (.pr (.var 1) (.pr (.var 1) (.int 0))))) (.and (.cmp .lss (.var 8) (.var 1)) (.and (.not (.cmp .eql (.fn 1 (.pr (.var 0) (.fn 6 (.pr (.fn 8 (.pr (.var 8) (.int 3))) (.int 2))))) (.int 1))) (.and (.not (.cmp .eql (.fn 1 (.pr (.var 0) (.fn 6 (.pr (.fn 8 (.pr (.var 8) (.int 3))) (.int 2))))) (.int 2))) (.and (.not (.cmp .eql (.fn 1 (.pr (.var 0) (.fn 6 (.pr (.fn 8 (.pr (.var 8) (.int 3))) (.int 0))))) (.int 0))) (.and (.cmp .eql (.var 9) (.fn 8 (.pr (.var 8) (.int 2)))) (.and (.not (.cmp .lss (.var 1) (.var 8))) (.and (.not (.cmp .lss (.var 8) (.int 0))) (.and (.not (.cmp .lss (.int 50001) (.var 1))) (.and (.not (.cmp .lss (.var 1) (.int 1))) (.and (.not (.cmp .lss (.int 50001) (.var 1))) (.not (.cmp .lss (.var 1) (.int 1)))))))))))))) (.cmp .eql (.fn 1 (.pr (.var 0) (.fn 6 (.pr (.fn 8 (.pr (.var 8) (.int 3))) (.int 0))))) (.int 1)))
theorem fact44 (ρ : Env) : E.B ρ f44 = true := by
  unfold f44
  rw [sm_B_imp]
  simp only [sm_B_and]
  rintro ⟨p0, p1, p2, p3, p4, p5, p6, p7, p8, p9, p10, p11⟩
  have g0 := rows_get p0 (.var 8)
  clear p0
  simp only [sm_I_int, sm_I_fn6, sm_I_fn7, sm_I_fn8, sm_B_bool, sm_B_eql, sm_B_lss, sm_B_not, sm_B_and, sm_B_imp, sm_B_iff, sm_I_add_i64, sm_I_sub_i64, sm_I_mul_i64, sm_I_rem, sm_I_wr, sm_I_mx, sm_I_mn] at *
  try generalize E.I ρ (.var 8) = a0 at *
  try generalize E.I ρ (.var 1) = a1 at *
  try generalize E.I ρ (.fn 1 (.pr (.var 0) (.fn 6 (.pr (.fn 8 (.pr (.var 8) (.int 3))) (.int 2))))) = a2 at *
  try generalize E.I ρ (.fn 1 (.pr (.var 0) (.fn 6 (.pr (.fn 8 (.pr (.var 8) (.int 3))) (.int 0))))) = a3 at *
  try generalize E.I ρ (.var 9) = a4 at *
  omega
noncomputable def f45 : E := (.imp (.and (.fn 100 (.pr (.var 0) (.pr (.var 1) (.pr (.var 1) (.int 0))))) (.and (.cmp .lss (.var 2) (.var 1)) (.and (.not (.cmp .lss (.fn 1 (.pr (.var 0) (.fn 6 (.pr (.fn 8 (.pr (.var 2) (.int 3))) (.int 2))))) (.int 1))) (.and (.not (.cmp .lss (.int 50001) (.var 1))) (.and (.not (.cmp .lss (.var 1) (.int 1))) (.and (.not (.cmp .lss (.var 1) (.var 2))) (.and (.not (.cmp .lss (.var 2) (.int 0))) (.and (.not (.cmp .lss (.int 50001) (.var 1))) (.not (.cmp .lss (.var 1) (.int 1))))))))))) (.not (.cmp .lss (.int 3) (.fn 1 (.pr (.var 0) (.fn 6 (.pr (.fn 8 (.pr (.var 2) (.int 3))) (.int 2))))))))
theorem fact45 (ρ : Env) : E.B ρ f45 = true := by
  unfold f45
  rw [sm_B_imp]
  simp only [sm_B_and]
  rintro ⟨p0, p1, p2, p3, p4, p5, p6, p7, p8⟩
  have g0 := rows_get p0 (.var 2)
  clear p0
  simp only [sm_I_int, sm_I_fn6, sm_I_fn7, sm_I_fn8, sm_B_bool, sm_B_eql, sm_B_lss, sm_B_not, sm_B_and, sm_B_imp, sm_B_iff, sm_I_add_i64, sm_I_sub_i64, sm_I_mul_i64, sm_I_rem, sm_I_wr, sm_I_mx, sm_I_mn] at *
  try generalize E.I ρ (.var 2) = a0 at *
  try generalize E.I ρ (.var 1) = a1 at *
  try generalize E.I ρ (.fn 1 (.pr (.var 0) (.fn 6 (.pr (.fn 8 (.pr (.var 2) (.int 3))) (.int 2))))) = a2 at *
  omega
noncomputable def f46 : E := (.imp (.and (.fn 100 (.pr (.var 0) (.pr (.var 1) (.pr (.var 1) (.int 0))))) (.and (.cmp .lss (.var 2) (.var 1)) (.and (.not (.cmp .lss (.int 50001) (.var 1))) (.and (.not (.cmp .lss (.var 1) (.int 1))) (.and (.not (.cmp .lss (.var 1) (.var 2))) (.and (.not (.cmp .lss (.var 2) (.int 0))) (.and (.not (.cmp .lss (.int 50001) (.var 1))) (.not (.cmp .lss (.var 1) (.int 1)))))))))) (.not (.cmp .lss (.fn 1 (.pr (.var 0) (.fn 6 (.pr (.fn 8 (.pr (.var 2) (.int 3))) (.int 2))))) (.int 1))))
theorem fact46 (ρ : Env) : E.B ρ f46 = true := by
  unfold f46
  rw [sm_B_imp]
  simp only [sm_B_and]
  rintro ⟨p0, p1, p2, p3, p4, p5, p6, p7⟩
  have g0 := rows_get p0 (.var 2)
  clear p0
  simp only [sm_I_int, sm_I_fn6, sm_I_fn7, sm_I_fn8, sm_B_bool, sm_B_eql, sm_B_lss, sm_B_not, sm_B_and, sm_B_imp, sm_B_iff, sm_I_add_i64, sm_I_sub_i64, sm_I_mul_i64, sm_I_rem, sm_I_wr, sm_I_mx, sm_I_mn] at *
  try generalize E.I ρ (.var 2) = a0 at *
  try generalize E.I ρ (.var 1) = a1 at *
  try generalize E.I ρ (.fn 1 (.pr (.var 0) (.fn 6 (.pr (.fn 8 (.pr (.var 2) (.int 3))) (.int 2))))) = a2 at *
  omega
noncomputable def f47 : E := (.imp (.and (.fn 100 (.pr (.var 0) (.pr (.var 1) (.pr (.var 1) (.int 0))))) (.and (.cmp .lss (.var 8) (.var 1)) (.and (.cmp .eql (.fn 1 (.pr (.var 0) (.fn 6 (.pr (.fn 8 (.pr (.var 8) (.int 3))) (.int 2))))) (.int 1)) (.and (.cmp .eql (.fn 1 (.pr (.var 0) (.fn 6 (.pr (.fn 8 (.pr (.var 8) (.int 3))) (.int 0))))) (.int 0)) (.and (.cmp .eql (.var 9) (.fn 8 (.pr (.var 8) (.int 2)))) (.and (.not (.cmp .lss (.var 1) (.var 8))) (.and (.not (.cmp .lss (.var 8) (.int 0))) (.and (.not (.cmp .lss (.int 50001) (.var 1))) (.and (.not (.cmp .lss (.var 1) (.int 1))) (.and (.not (.cmp .lss (.int 50001) (.var 1))) (.not (.cmp .lss (.var 1) (.int 1))))))))))))) (.cmp .eql (.fn 1 (.pr (.var 0) (.fn 6 (.pr (.fn 8 (.pr (.var 8) (.int 3))) (.int 1))))) (.int 1)))
theorem fact47 (ρ : Env) : E.B ρ f47 = true := by
  unfold f47
  rw [sm_B_imp]
  simp only [sm_B_and]
  rintro ⟨p0, p1, p2, p3, p4, p5, p6, p7, p8, p9, p10⟩
  have g0 := rows_get p0 (.var 8)
  clear p0
  simp only [sm_I_int, sm_I_fn6, sm_I_fn7, sm_I_fn8, sm_B_bool, sm_B_eql, sm_B_lss, sm_B_not, sm_B_and, sm_B_imp, sm_B_iff, sm_I_add_i64, sm_I_sub_i64, sm_I_mul_i64, sm_I_rem, sm_I_wr, sm_I_mx, sm_I_mn] at *
  try generalize E.I ρ (.var 8) = a0 at *
  try generalize E.I ρ (.var 1) = a1 at *
  try generalize E.I ρ (.fn 1 (.pr (.var 0) (.fn 6 (.pr (.fn 8 (.pr (.var 8) (.int 3))) (.int 2))))) = a2 at *
  try generalize E.I ρ (.fn 1 (.pr (.var 0) (.fn 6 (.pr (.fn 8 (.pr (.var 8) (.int 3))) (.int 0))))) = a3 at *
  try generalize E.I ρ (.var 9) = a4 at *
  try generalize E.I ρ (.fn 1 (.pr (.var 0) (.fn 6 (.pr (.fn 8 (.pr (.var 8) (.int 3))) (.int 1))))) = a5 at *
  omega
noncomputable def f48 : E := (.imp (.and (.fn 100 (.pr (.var 0) (.pr (.var 1) (.pr (.var 1) (.int 0))))) (.and (.cmp .lss (.var 8) (.var 1)) (.and (.not (.cmp .eql (.fn 1 (.pr (.var 0) (.fn 6 (.pr (.fn 8 (.pr (.var 8) (.int 3))) (.int 2))))) (.int 1))) (.and (.cmp .eql (.fn 1 (.pr (.var 0) (.fn 6 (.pr (.fn 8 (.pr (.var 8) (.int 3))) (.int 2))))) (.int 2)) (.and (.not (.cmp .eql (.fn 1 (.pr (.var 0) (.fn 6 (.pr (.fn 8 (.pr (.var 8) (.int 3))) (.int 1))))) (.int 0))) (.and (.cmp .eql (.var 9) (.fn 8 (.pr (.var 8) (.int 2)))) (.and (.not (.cmp .lss (.var 1) (.var 8))) (.and (.not (.cmp .lss (.var 8) (.int 0))) (.and (.not (.cmp .lss (.int 50001) (.var 1))) (.and (.not (.cmp .lss (.var 1) (.int 1))) (.and (.not (.cmp .lss (.int 50001) (.var 1))) (.not (.cmp .lss (.var 1) (.int 1)))))))))))))) (.cmp .eql (.fn 1 (.pr (.var 0) (.fn 6 (.pr (.fn 8 (.pr (.var 8) (.int 3))) (.int 0))))) (.int 0)))
theorem fact48 (ρ : Env) : E.B ρ f48 = true := by
  unfold f48
  rw [sm_B_imp]
  simp only [sm_B_and]
  rintro ⟨p0, p1, p2, p3, p4, p5, p6, p7, p8, p9, p10, p11⟩
  have g0 := rows_get p0 (.var 8)
  clear p0
  simp only [sm_I_int, sm_I_fn6, sm_I_fn7, sm_I_fn8, sm_B_bool, sm_B_eql, sm_B_lss, sm_B_not, sm_B_and, sm_B_imp, sm_B_iff, sm_I_add_i64, sm_I_sub_i64, sm_I_mul_i64, sm_I_rem, sm_I_wr, sm_I_mx, sm_I_mn] at *
  try generalize E.I ρ (.var 8) = a0 at *
  try generalize E.I ρ (.var 1) = a1 at *
  try generalize E.I ρ (.fn 1 (.pr (.var 0) (.fn 6 (.pr (.fn 8 (.pr (.var 8) (.int 3))) (.int 2))))) = a2 at *
  try generalize E.I ρ (.fn 1 (.pr (.var 0) (.fn 6 (.pr (.fn 8 (.pr (.var 8) (.int 3))) (.int 1))))) = a3 at *
  try generalize E.I ρ (.var 9) = a4 at *
  try generalize E.I ρ (.fn 1 (.pr (.var 0) (.fn 6 (.pr (.fn 8 (.pr (.var 8) (.int 3))) (.int 0))))) = a5 at *
  omega
noncomputable def f49 : E := (.imp (.and (.fn 100 (.pr (.var 0) (.pr (.var 1) (.pr (.var 1) (.int 0))))) (.and (.cmp .lss (.var 8) (.var 1)) (.and (.not (.cmp .eql (.fn 1 (.pr (.var 0) (.fn 6 (.pr (.fn 8 (.pr (.var 8) (.int 3))) (.int 2))))) (.int 1))) (.and (.cmp .eql (.fn 1 (.pr (.var 0) (.fn 6 (.pr (.fn 8 (.pr (.var 8) (.int 3))) (.int 2))))) (.int 2)) (.and (.not (.cmp .eql (.fn 1 (.pr (.var 0) (.fn 6 (.pr (.fn 8 (.pr (.var 8) (.int 3))) (.int 1))))) (.int 0))) (.and (.cmp .eql (.var 9) (.fn 8 (.pr (.var 8) (.int 2)))) (.and (.not (.cmp .lss (.var 1) (.var 8))) (.and (.not (.cmp .lss (.var 8) (.int 0))) (.and (.not (.cmp .lss (.int 50001) (.var 1))) (.and (.not (.cmp .lss (.var 1) (.int 1))) (.and (.not (.cmp .lss (.int 50001) (.var 1))) (.not (.cmp .lss (.var 1) (.int 1)))))))))))))) (.not (.cmp .eql (.fn 1 (.pr (.var 0) (.fn 6 (.pr (.fn 8 (.pr (.var 8) (.int 3))) (.int 0))))) (.int 0))))
theorem fact49 (ρ : Env) : E.B ρ f49 = true := by
  unfold f49
  rw [sm_B_imp]
  simp only [sm_B_and]
  rintro ⟨p0, p1, p2, p3, p4, p5, p6, p7, p8, p9, p10, p11⟩
  have g0 := rows_get p0 (.var 8)
  clear p0
  simp only [sm_I_int, sm_I_fn6, sm_I_fn7, sm_I_fn8, sm_B_bool, sm_B_eql, sm_B_lss, sm_B_not, sm_B_and, sm_B_imp, sm_B_iff, sm_I_add_i64, sm_I_sub_i64, sm_I_mul_i64, sm_I_rem, sm_I_wr, sm_I_mx, sm_I_mn] at *
  try generalize E.I ρ (.var 8) = a0 at *
  try generalize E.I ρ (.var 1) = a1 at *
  try generalize E.I ρ (.fn 1 (.pr (.var 0) (.fn 6 (.pr (.fn 8 (.pr (.var 8) (.int 3))) (.int 2))))) = a2 at *
  try generalize E.I ρ (.fn 1 (.pr (.var 0) (.fn 6 (.pr (.fn 8 (.pr (.var 8) (.int 3))) (.int 1))))) = a3 at *
  try generalize E.I ρ (.var 9) = a4 at *
  try generalize E.I ρ (.fn 1 (.pr (.var 0) (.fn 6 (.pr (.fn 8 (.pr (.var 8) (.int 3))) (.int 0))))) = a5 at *
  omega
noncomputable def f50 : E := (.imp (.and (.cmp .lss (.var 8) (.var 1)) (.and (.cmp .eql (.var 9) (.fn 8 (.pr (.var 8) (.int 2)))) (.and (.not (.cmp .lss (.var 1) (.var 8))) (.and (.not (.cmp .lss (.var 8) (.int 0))) (.and (.not (.cmp .lss (.int 50001) (.var 1))) (.and (.not (.cmp .lss (.var 1) (.int 1))) (.and (.not (.cmp .lss (.int 50001) (.var 1))) (.not (.cmp .lss (.var 1) (.int 1)))))))))) (.not (.cmp .lss (.var 1) (.ar .add .i64 (.var 8) (.int 1)))))
theorem fact50 (ρ : Env) : E.B ρ f50 = true := by
  unfold f50
  rw [sm_B_imp]
  simp only [sm_B_and]
  rintro ⟨p0, p1, p2, p3, p4, p5, p6, p7⟩
  simp only [sm_I_int, sm_I_fn6, sm_I_fn7, sm_I_fn8, sm_B_bool, sm_B_eql, sm_B_lss, sm_B_not, sm_B_and, sm_B_imp, sm_B_iff, sm_I_add_i64, sm_I_sub_i64, sm_I_mul_i64, sm_I_rem, sm_I_wr, sm_I_mx, sm_I_mn] at *
  try generalize E.I ρ (.var 8) = a0 at *
  try generalize E.I ρ (.var 1) = a1 at *
  try generalize E.I ρ (.var 9) = a2 at *
  obtain ⟨a3, ea3, qa3⟩ := cs_i64 (a0 + (1))
  try simp only [ea3] at *
  omega
noncomputable def f51 : E := (.imp (.and (.fn 100 (.pr (.var 0) (.pr (.var 1) (.pr (.var 1) (.int 0))))) (.and (.cmp .lss (.var 8) (.var 1)) (.and (.not (.cmp .eql (.fn 1 (.pr (.var 0) (.fn 6 (.pr (.fn 8 (.pr (.var 8) (.int 3))) (.int 2))))) (.int 1))) (.and (.cmp .eql (.fn 1 (.pr (.var 0) (.fn 6 (.pr (.fn 8 (.pr (.var 8) (.int 3))) (.int 2))))) (.int 2)) (.and (.cmp .eql (.fn 1 (.pr (.var 0) (.fn 6 (.pr (.fn 8 (.pr (.var 8) (.int 3))) (.int 1))))) (.int 0)) (.and (.cmp .eql (.var 9) (.fn 8 (.pr (.var 8) (.int 2)))) (.and (.not (.cmp .lss (.var 1) (.var 8))) (.and (.not (.cmp .lss (.var 8) (.int 0))) (.and (.not (.cmp .lss (.int 50001) (.var 1))) (.and (.not (.cmp .lss (.var 1) (.int 1))) (.and (.not (.cmp .lss (.int 50001) (.var 1))) (.not (.cmp .lss (.var 1) (.int 1)))))))))))))) (.not (.cmp .eql (.fn 1 (.pr (.var 0) (.fn 6 (.pr (.fn 8 (.pr (.var 8) (.int 3))) (.int 0))))) (.int 0))))
theorem fact51 (ρ : Env) : E.B ρ f51 = true := by
  unfold f51
  rw [sm_B_imp]
  simp only [sm_B_and]
  rintro ⟨p0, p1, p2, p3, p4, p5, p6, p7, p8, p9, p10, p11⟩
  have g0 := rows_get p0 (.var 8)
  clear p0
  simp only [sm_I_int, sm_I_fn6, sm_I_fn7, sm_I_fn8, sm_B_bool, sm_B_eql, sm_B_lss, sm_B_not, sm_B_and, sm_B_imp, sm_B_iff, sm_I_add_i64, sm_I_sub_i64, sm_I_mul_i64, sm_I_rem, sm_I_wr, sm_I_mx, sm_I_mn] at *
  try generalize E.I ρ (.var 8) = a0 at *
  try generalize E.I ρ (.var 1) = a1 at *
  try generalize E.I ρ (.fn 1 (.pr (.var 0) (.fn 6 (.pr (.fn 8 (.pr (.var 8) (.int 3))) (.int 2))))) = a2 at *
  try generalize E.I ρ (.fn 1 (.pr (.var 0) (.fn 6 (.pr (.fn 8 (.pr (.var 8) (.int 3))) (.int 1))))) = a3 at *
  try generalize E.I ρ (.var 9) = a4 at *
  try generalize E.I ρ (.fn 1 (.pr (.var 0) (.fn 6 (.pr (.fn 8 (.pr (.var 8) (.int 3))) (.int 0))))) = a5 at *
  omega
noncomputable def f52 : E := (.imp (.and (.fn 100 (.pr (.var 0) (.pr (.var 1) (.pr (.var 1) (.int 0))))) (.and (.cmp .lss (.var 8) (.var 1)) (.and (.not (.cmp .eql (.fn 1 (.pr (.var 0) (.fn 6 (.pr (.fn 8 (.pr (.var 8) (.int 3))) (.int 2))))) (.int 1))) (.and (.not (.cmp .eql (.fn 1 (.pr (.var 0) (.fn 6 (.pr (.fn 8 (.pr (.var 8) (.int 3))) (.int 2))))) (.int 2))) (.and (.not (.cmp .eql (.fn 1 (.pr (.var 0) (.fn 6 (.pr (.fn 8 (.pr (.var 8) (.int 3))) (.int 0))))) (.int 0))) (.and (.not (.cmp .eql (.fn 1 (.pr (.var 0) (.fn 6 (.pr (.fn 8 (.pr (.var 8) (.int 3))) (.int 1))))) (.int 0))) (.and (.cmp .eql (.var 9) (.fn 8 (.pr (.var 8) (.int 2)))) (.and (.not (.cmp .lss (.var 1) (.var 8))) (.and (.not (.cmp .lss (.var 8) (.int 0))) (.and (.not (.cmp .lss (.int 50001) (.var 1))) (.and (.not (.cmp .lss (.var 1) (.int 1))) (.and (.not (.cmp .lss (.int 50001) (.var 1))) (.not (.cmp .lss (.var 1) (.int 1))))))))))))))) (.cmp .eql (.fn 1 (.pr (.var 0) (.fn 6 (.pr (.fn 8 (.pr (.var 8) (.int 3))) (.int 1))))) (.int 1)))
theorem fact52 (ρ : Env) : E.B ρ f52 = true := by
  unfold f52
  rw [sm_B_imp]
  simp only [sm_B_and]
  rintro ⟨p0, p1, p2, p3, p4, p5, p6, p7, p8, p9, p10, p11, p12⟩
  have g0 := rows_get p0 (.var 8)
  clear p0
  simp only [sm_I_int, sm_I_fn6, sm_I_fn7, sm_I_fn8, sm_B_bool, sm_B_eql, sm_B_lss, sm_B_not, sm_B_and, sm_B_imp, sm_B_iff, sm_I_add_i64, sm_I_sub_i64, sm_I_mul_i64, sm_I_rem, sm_I_wr, sm_I_mx, sm_I_mn] at *
  try generalize E.I ρ (.var 8) = a0 at *
  try generalize E.I ρ (.var 1) = a1 at *
  try generalize E.I ρ (.fn 1 (.pr (.var 0) (.fn 6 (.pr (.fn 8 (.pr (.var 8) (.int 3))) (.int 2))))) = a2 at *
  try generalize E.I ρ (.fn 1 (.pr (.var 0) (.fn 6 (.pr (.fn 8 (.pr (.var 8) (.int 3))) (.int 0))))) = a3 at *
  try generalize E.I ρ (.fn 1 (.pr (.var 0) (.fn 6 (.pr (.fn 8 (.pr (.var 8) (.int 3))) (.int 1))))) = a4 at *
  try generalize E.I ρ (.var 9) = a5 at *
  omega
noncomputable def f53 : E := (.imp (.and (.cmp .eql (.var 9) (.fn 8 (.pr (.var 8) (.int 2)))) (.and (.not (.cmp .lss (.var 1) (.var 8))) (.and (.not (.cmp .lss (.var 8) (.int 0))) (.and (.not (.cmp .lss (.int 50001) (.var 1))) (.and (.not (.cmp .lss (.var 1) (.int 1))) (.and (.not (.cmp .lss (.int 50001) (.var 1))) (.not (.cmp .lss (.var 1) (.int 1))))))))) (.cmp .eql (.ar .add .i64 (.int 0) (.var 1)) (.var 1)))
theorem fact53 (ρ : Env) : E.B ρ f53 = true := by
  unfold f53
  rw [sm_B_imp]
  simp only [sm_B_and]
  rintro ⟨p0, p1, p2, p3, p4, p5, p6⟩
  simp only [sm_I_int, sm_I_fn6, sm_I_fn7, sm_I_fn8, sm_B_bool, sm_B_eql, sm_B_lss, sm_B_not, sm_B_and, sm_B_imp, sm_B_iff, sm_I_add_i64, sm_I_sub_i64, sm_I_mul_i64, sm_I_rem, sm_I_wr, sm_I_mx, sm_I_mn] at *
  try generalize E.I ρ (.var 9) = a0 at *
  try generalize E.I ρ (.var 8) = a1 at *
  try generalize E.I ρ (.var 1) = a2 at *
  obtain ⟨a3, ea3, qa3⟩ := cs_i64 ((0) + a2)
  try simp only [ea3] at *
  omega
noncomputable def f54 : E := (.imp (.and (.fn 100 (.pr (.var 0) (.pr (.var 1) (.pr (.var 1) (.int 0))))) (.and (.cmp .lss (.var 2) (.var 1)) (.and (.not (.cmp .lss (.int 50001) (.var 1))) (.and (.not (.cmp .lss (.var 1) (.int 1))) (.and (.not (.cmp .lss (.var 1) (.var 2))) (.and (.not (.cmp .lss (.var 2) (.int 0))) (.and (.not (.cmp .lss (.int 50001) (.var 1))) (.not (.cmp .lss (.var 1) (.int 1)))))))))) (.not (.cmp .lss (.int 3) (.fn 1 (.pr (.var 0) (.fn 6 (.pr (.fn 8 (.pr (.var 2) (.int 3))) (.int 2))))))))
theorem fact54 (ρ : Env) : E.B ρ f54 = true := by
  unfold f54
  rw [sm_B_imp]
  simp only [sm_B_and]
  rintro ⟨p0, p1, p2, p3, p4, p5, p6, p7⟩
  have g0 := rows_get p0 (.var 2)
  clear p0
  simp only [sm_I_int, sm_I_fn6, sm_I_fn7, sm_I_fn8, sm_B_bool, sm_B_eql, sm_B_lss, sm_B_not, sm_B_and, sm_B_imp, sm_B_iff, sm_I_add_i64, sm_I_sub_i64, sm_I_mul_i64, sm_I_rem, sm_I_wr, sm_I_mx, sm_I_mn] at *
  try generalize E.I ρ (.var 2) = a0 at *
  try generalize E.I ρ (.var 1) = a1 at *
  try generalize E.I ρ (.fn 1 (.pr (.var 0) (.fn 6 (.pr (.fn 8 (.pr (.var 2) (.int 3))) (.int 2))))) = a2 at *
  omega
noncomputable def f55 : E := (.imp (.and (.fn 100 (.pr (.var 0) (.pr (.var 1) (.pr (.var 1) (.int 0))))) (.and (.cmp .lss (.var 8) (.var 1)) (.and (.cmp .eql (.fn 1 (.pr (.var 0) (.fn 6 (.pr (.fn 8 (.pr (.var 8) (.int 3))) (.int 2))))) (.int 1)) (.and (.cmp .eql (.var 9) (.fn 8 (.pr (.var 8) (.int 2)))) (.and (.not (.cmp .lss (.var 1) (.var 8))) (.and (.not (.cmp .lss (.var 8) (.int 0))) (.and (.not (.cmp .lss (.int 50001) (.var 1))) (.and (.not (.cmp .lss (.var 1) (.int 1))) (.and (.not (.cmp .lss (.int 50001) (.var 1))) (.not (.cmp .lss (.var 1) (.int 1)))))))))))) (.cmp .eql (.fn 1 (.pr (.var 0) (.fn 6 (.pr (.fn 8 (.pr (.var 8) (.int 3))) (.int 0))))) (.int 0)))
theorem fact55 (ρ : Env) : E.B ρ f55 = true := by
  unfold f55
  rw [sm_B_imp]
  simp only [sm_B_and]
  rintro ⟨p0, p1, p2, p3, p4, p5, p6, p7, p8, p9⟩
  have g0 := rows_get p0 (.var 8)
  clear p0
  simp only [sm_I_int, sm_I_fn6, sm_I_fn7, sm_I_fn8, sm_B_bool, sm_B_eql, sm_B_lss, sm_B_not, sm_B_and, sm_B_imp, sm_B_iff, sm_I_add_i64, sm_I_sub_i64, sm_I_mul_i64, sm_I_rem, sm_I_wr, sm_I_mx, sm_I_mn] at *
  try generalize E.I ρ (.var 8) = a0 at *
  try generalize E.I ρ (.var 1) = a1 at *
  try generalize E.I ρ (.fn 1 (.pr (.var 0) (.fn 6 (.pr (.fn 8 (.pr (.var 8) (.int 3))) (.int 2))))) = a2 at *
  try generalize E.I ρ (.var 9) = a3 at *
  try generalize E.I ρ (.fn 1 (.pr (.var 0) (.fn 6 (.pr (.fn 8 (.pr (.var 8) (.int 3))) (.int 0))))) = a4 at *
  omega
noncomputable def f56 : E := (.imp (.and (.cmp .eql (.var 9) (.fn 8 (.pr (.var 8) (.int 2)))) (.and (.not (.cmp .lss (.var 1) (.var 8))) (.and (.not (.cmp .lss (.var 8) (.int 0))) (.and (.not (.cmp .lss (.int 50001) (.var 1))) (.and (.not (.cmp .lss (.var 1) (.int 1))) (.and (.not (.cmp .lss (.int 50001) (.var 1))) (.not (.cmp .lss (.var 1) (.int 1))))))))) (.cmp .eql (.ar .add .i64 (.var 9) (.int 2)) (.fn 8 (.pr (.ar .add .i64 (.var 8) (.int 1)) (.int 2)))))
theorem fact56 (ρ : Env) : E.B ρ f56 = true := by
  unfold f56
  rw [sm_B_imp]
  simp only [sm_B_and]
  rintro ⟨p0, p1, p2, p3, p4, p5, p6⟩
  simp only [sm_I_int, sm_I_fn6, sm_I_fn7, sm_I_fn8, sm_B_bool, sm_B_eql, sm_B_lss, sm_B_not, sm_B_and, sm_B_imp, sm_B_iff, sm_I_add_i64, sm_I_sub_i64, sm_I_mul_i64, sm_I_rem, sm_I_wr, sm_I_mx, sm_I_mn] at *
  try generalize E.I ρ (.var 9) = a0 at *
  try generalize E.I ρ (.var 8) = a1 at *
  try generalize E.I ρ (.var 1) = a2 at *
  obtain ⟨a3, ea3, qa3⟩ := cs_i64 (a0 + (2))
  try simp only [ea3] at *
  obtain ⟨a4, ea4, qa4⟩ := cs_i64 (a1 + (1))
  try simp only [ea4] at *
  omega
noncomputable def f57 : E := (.imp (.and (.fn 100 (.pr (.var 0) (.pr (.var 1) (.pr (.var 1) (.int 0))))) (.and (.cmp .lss (.var 8) (.var 1)) (.and (.not (.cmp .eql (.fn 1 (.pr (.var 0) (.fn 6 (.pr (.fn 8 (.pr (.var 8) (.int 3))) (.int 2))))) (.int 1))) (.and (.cmp .eql (.fn 1 (.pr (.var 0) (.fn 6 (.pr (.fn 8 (.pr (.var 8) (.int 3))) (.int 2))))) (.int 2)) (.and (.cmp .eql (.fn 1 (.pr (.var 0) (.fn 6 (.pr (.fn 8 (.pr (.var 8) (.int 3))) (.int 1))))) (.int 0)) (.and (.cmp .eql (.var 9) (.fn 8 (.pr (.var 8) (.int 2)))) (.and (.not (.cmp .lss (.var 1) (.var 8))) (.and (.not (.cmp .lss (.var 8) (.int 0))) (.and (.not (.cmp .lss (.int 50001) (.var 1))) (.and (.not (.cmp .lss (.var 1) (.int 1))) (.and (.not (.cmp .lss (.int 50001) (.var 1))) (.not (.cmp .lss (.var 1) (.int 1)))))))))))))) (.cmp .eql (.fn 1 (.pr (.var 0) (.fn 6 (.pr (.fn 8 (.pr (.var 8) (.int 3))) (.int 0))))) (.int 1)))
theorem fact57 (ρ : Env) : E.B ρ f57 = true := by
  unfold f57
  rw [sm_B_imp]
  simp only [sm_B_and]
  rintro ⟨p0, p1, p2, p3, p4, p5, p6, p7, p8, p9, p10, p11⟩
  have g0 := rows_get p0 (.var 8)
  clear p0
  simp only [sm_I_int, sm_I_fn6, sm_I_fn7, sm_I_fn8, sm_B_bool, sm_B_eql, sm_B_lss, sm_B_not, sm_B_and, sm_B_imp, sm_B_iff, sm_I_add_i64, sm_I_sub_i64, sm_I_mul_i64, sm_I_rem, sm_I_wr, sm_I_mx, sm_I_mn] at *
  try generalize E.I ρ (.var 8) = a0 at *
  try generalize E.I ρ (.var 1) = a1 at *
  try generalize E.I ρ (.fn 1 (.pr (.var 0) (.fn 6 (.pr (.fn 8 (.pr (.var 8) (.int 3))) (.int 2))))) = a2 at *
  try generalize E.I ρ (.fn 1 (.pr (.var 0) (.fn 6 (.pr (.fn 8 (.pr (.var 8) (.int 3))) (.int 1))))) = a3 at *
  try generalize E.I ρ (.var 9) = a4 at *
  try generalize E.I ρ (.fn 1 (.pr (.var 0) (.fn 6 (.pr (.fn 8 (.pr (.var 8) (.int 3))) (.int 0))))) = a5 at *
  omega
noncomputable def f58 : E := (.imp (.and (.fn 100 (.pr (.var 0) (.pr (.var 1) (.pr (.var 1) (.int 0))))) (.and (.cmp .lss (.var 8) (.var 1)) (.and (.not (.cmp .eql (.fn 1 (.pr (.var 0) (.fn 6 (.pr (.fn 8 (.pr (.var 8) (.int 3))) (.int 2))))) (.int 1))) (.and (.not (.cmp .eql (.fn 1 (.pr (.var 0) (.fn 6 (.pr (.fn 8 (.pr (.var 8) (.int 3))) (.int 2))))) (.int 2))) (.and (.not (.cmp .eql (.fn 1 (.pr (.var 0) (.fn 6 (.pr (.fn 8 (.pr (.var 8) (.int 3))) (.int 0))))) (.int 0))) (.and (.cmp .eql (.var 9) (.fn 8 (.pr (.var 8) (.int 2)))) (.and (.not (.cmp .lss (.var 1) (.var 8))) (.and (.not (.cmp .lss (.var 8) (.int 0))) (.and (.not (.cmp .lss (.int 50001) (.var 1))) (.and (.not (.cmp .lss (.var 1) (.int 1))) (.and (.not (.cmp .lss (.int 50001) (.var 1))) (.not (.cmp .lss (.var 1) (.int 1)))))))))))))) (.cmp .eql (.fn 1 (.pr (.var 0) (.fn 6 (.pr (.fn 8 (.pr (.var 8) (.int 3))) (.int 1))))) (.int 0)))
theorem fact58 (ρ : Env) : E.B ρ f58 = true := by
  unfold f58
  rw [sm_B_imp]
  simp only [sm_B_and]
  rintro ⟨p0, p1, p2, p3, p4, p5, p6, p7, p8, p9, p10, p11⟩
  have g0 := rows_get p0 (.var 8)
  clear p0
  simp only [sm_I_int, sm_I_fn6, sm_I_fn7, sm_I_fn8, sm_B_bool, sm_B_eql, sm_B_lss, sm_B_not, sm_B_and, sm_B_imp, sm_B_iff, sm_I_add_i64, sm_I_sub_i64, sm_I_mul_i64, sm_I_rem, sm_I_wr, sm_I_mx, sm_I_mn] at *
  try generalize E.I ρ (.var 8) = a0 at *
  try generalize E.I ρ (.var 1) = a1 at *
  try generalize E.I ρ (.fn 1 (.pr (.var 0) (.fn 6 (.pr (.fn 8 (.pr (.var 8) (.int 3))) (.int 2))))) = a2 at *
  try generalize E.I ρ (.fn 1 (.pr (.var 0) (.fn 6 (.pr (.fn 8 (.pr (.var 8) (.int 3))) (.int 0))))) = a3 at *
  try generalize E.I ρ (.var 9) = a4 at *
  try generalize E.I ρ (.fn 1 (.pr (.var 0) (.fn 6 (.pr (.fn 8 (.pr (.var 8) (.int 3))) (.int 1))))) = a5 at *
  omega
noncomputable def f59 : E := (.imp (.and (.fn 100 (.pr (.var 0) (.pr (.var 1) (.pr (.var 1) (.int 0))))) (.and (.cmp .lss (.var 8) (.var 1)) (.and (.not (.cmp .eql (.fn 1 (.pr (.var 0) (.fn 6 (.pr (.fn 8 (.pr (.var 8) (.int 3))) (.int 2))))) (.int 1))) (.and (.not (.cmp .eql (.fn 1 (.pr (.var 0) (.fn 6 (.pr (.fn 8 (.pr (.var 8) (.int 3))) (.int 2))))) (.int 2))) (.and (.not (.cmp .eql (.fn 1 (.pr (.var 0) (.fn 6 (.pr (.fn 8 (.pr (.var 8) (.int 3))) (.int 0))))) (.int 0))) (.and (.cmp .eql (.var 9) (.fn 8 (.pr (.var 8) (.int 2)))) (.and (.not (.cmp .lss (.var 1) (.var 8))) (.and (.not (.cmp .lss (.var 8) (.int 0))) (.and (.not (.cmp .lss (.int 50001) (.var 1))) (.and (.not (.cmp .lss (.var 1) (.int 1))) (.and (.not (.cmp .lss (.int 50001) (.var 1))) (.not (.cmp .lss (.var 1) (.int 1)))))))))))))) (.not (.cmp .eql (.fn 1 (.pr (.var 0) (.fn 6 (.pr (.fn 8 (.pr (.var 8) (.int 3))) (.int 1))))) (.int 0))))
theorem fact59 (ρ : Env) : E.B ρ f59 = true := by
  unfold f59
  rw [sm_B_imp]
  simp only [sm_B_and]
  rintro ⟨p0, p1, p2, p3, p4, p5, p6, p7, p8, p9, p10, p11⟩
  have g0 := rows_get p0 (.var 8)
  clear p0
  simp only [sm_I_int, sm_I_fn6, sm_I_fn7, sm_I_fn8, sm_B_bool, sm_B_eql, sm_B_lss, sm_B_not, sm_B_and, sm_B_imp, sm_B_iff, sm_I_add_i64, sm_I_sub_i64, sm_I_mul_i64, sm_I_rem, sm_I_wr, sm_I_mx, sm_I_mn] at *
  try generalize E.I ρ (.var 8) = a0 at *
  try generalize E.I ρ (.var 1) = a1 at *
  try generalize E.I ρ (.fn 1 (.pr (.var 0) (.fn 6 (.pr (.fn 8 (.pr (.var 8) (.int 3))) (.int 2))))) = a2 at *
  try generalize E.I ρ (.fn 1 (.pr (.var 0) (.fn 6 (.pr (.fn 8 (.pr (.var 8) (.int 3))) (.int 0))))) = a3 at *
  try generalize E.I ρ (.var 9) = a4 at *
  try generalize E.I ρ (.fn 1 (.pr (.var 0) (.fn 6 (.pr (.fn 8 (.pr (.var 8) (.int 3))) (.int 1))))) = a5 at *
  omega
noncomputable def f60 : E := (.imp (.and (.fn 100 (.pr (.var 0) (.pr (.var 1) (.pr (.var 1) (.int 0))))) (.and (.cmp .lss (.var 8) (.var 1)) (.and (.not (.cmp .eql (.fn 1 (.pr (.var 0) (.fn 6 (.pr (.fn 8 (.pr (.var 8) (.int 3))) (.int 2))))) (.int 1))) (.and (.not (.cmp .eql (.fn 1 (.pr (.var 0) (.fn 6 (.pr (.fn 8 (.pr (.var 8) (.int 3))) (.int 2))))) (.int 2))) (.and (.cmp .eql (.fn 1 (.pr (.var 0) (.fn 6 (.pr (.fn 8 (.pr (.var 8) (.int 3))) (.int 0))))) (.int 0)) (.and (.cmp .eql (.var 9) (.fn 8 (.pr (.var 8) (.int 2)))) (.and (.not (.cmp .lss (.var 1) (.var 8))) (.and (.not (.cmp .lss (.var 8) (.int 0))) (.and (.not (.cmp .lss (.int 50001) (.var 1))) (.and (.not (.cmp .lss (.var 1) (.int 1))) (.and (.not (.cmp .lss (.int 50001) (.var 1))) (.not (.cmp .lss (.var 1) (.int 1)))))))))))))) (.cmp .eql (.fn 1 (.pr (.var 0) (.fn 6 (.pr (.fn 8 (.pr (.var 8) (.int 3))) (.int 1))))) (.int 0)))
theorem fact60 (ρ : Env) : E.B ρ f60 = true := by
  unfold f60
  rw [sm_B_imp]
  simp only [sm_B_and]
  rintro ⟨p0, p1, p2, p3, p4, p5, p6, p7, p8, p9, p10, p11⟩
  have g0 := rows_get p0 (.var 8)
  clear p0
  simp only [sm_I_int, sm_I_fn6, sm_I_fn7, sm_I_fn8, sm_B_bool, sm_B_eql, sm_B_lss, sm_B_not, sm_B_and, sm_B_imp, sm_B_iff, sm_I_add_i64, sm_I_sub_i64, sm_I_mul_i64, sm_I_rem, sm_I_wr, sm_I_mx, sm_I_mn] at *
  try generalize E.I ρ (.var 8) = a0 at *
  try generalize E.I ρ (.var 1) = a1 at *
  try generalize E.I ρ (.fn 1 (.pr (.var 0) (.fn 6 (.pr (.fn 8 (.pr (.var 8) (.int 3))) (.int 2))))) = a2 at *
  try generalize E.I ρ (.fn 1 (.pr (.var 0) (.fn 6 (.pr (.fn 8 (.pr (.var 8) (.int 3))) (.int 0))))) = a3 at *
  try generalize E.I ρ (.var 9) = a4 at *
  try generalize E.I ρ (.fn 1 (.pr (.var 0) (.fn 6 (.pr (.fn 8 (.pr (.var 8) (.int 3))) (.int 1))))) = a5 at *
  omega
noncomputable def f61 : E := (.imp (.and (.fn 100 (.pr (.var 0) (.pr (.var 1) (.pr (.var 1) (.int 0))))) (.and (.cmp .lss (.var 8) (.var 1)) (.and (.not (.cmp .eql (.fn 1 (.pr (.var 0) (.fn 6 (.pr (.fn 8 (.pr (.var 8) (.int 3))) (.int 2))))) (.int 1))) (.and (.not (.cmp .eql (.fn 1 (.pr (.var 0) (.fn 6 (.pr (.fn 8 (.pr (.var 8) (.int 3))) (.int 2))))) (.int 2))) (.and (.cmp .eql (.fn 1 (.pr (.var 0) (.fn 6 (.pr (.fn 8 (.pr (.var 8) (.int 3))) (.int 0))))) (.int 0)) (.and (.cmp .eql (.var 9) (.fn 8 (.pr (.var 8) (.int 2)))) (.and (.not (.cmp .lss (.var 1) (.var 8))) (.and (.not (.cmp .lss (.var 8) (.int 0))) (.and (.not (.cmp .lss (.int 50001) (.var 1))) (.and (.not (.cmp .lss (.var 1) (.int 1))) (.and (.not (.cmp .lss (.int 50001) (.var 1))) (.not (.cmp .lss (.var 1) (.int 1)))))))))))))) (.not (.cmp .eql (.fn 1 (.pr (.var 0) (.fn 6 (.pr (.fn 8 (.pr (.var 8) (.int 3))) (.int 1))))) (.int 0))))
theorem fact61 (ρ : Env) : E.B ρ f61 = true := by
  unfold f61
  rw [sm_B_imp]
  simp only [sm_B_and]
  rintro ⟨p0, p1, p2, p3, p4, p5, p6, p7, p8, p9, p10, p11⟩
  have g0 := rows_get p0 (.var 8)
  clear p0
  simp only [sm_I_int, sm_I_fn6, sm_I_fn7, sm_I_fn8, sm_B_bool, sm_B_eql, sm_B_lss, sm_B_not, sm_B_and, sm_B_imp, sm_B_iff, sm_I_add_i64, sm_I_sub_i64, sm_I_mul_i64, sm_I_rem, sm_I_wr, sm_I_mx, sm_I_mn] at *
  try generalize E.I ρ (.var 8) = a0 at *
  try generalize E.I ρ (.var 1) = a1 at *
  try generalize E.I ρ (.fn 1 (.pr (.var 0) (.fn 6 (.pr (.fn 8 (.pr (.var 8) (.int 3))) (.int 2))))) = a2 at *
  try generalize E.I ρ (.fn 1 (.pr (.var 0) (.fn 6 (.pr (.fn 8 (.pr (.var 8) (.int 3))) (.int 0))))) = a3 at *
  try generalize E.I ρ (.var 9) = a4 at *
  try generalize E.I ρ (.fn 1 (.pr (.var 0) (.fn 6 (.pr (.fn 8 (.pr (.var 8) (.int 3))) (.int 1))))) = a5 at *
  omega
noncomputable def f62 : E := (.imp (.and (.not (.cmp .lss (.var 8) (.var 1))) (.and (.cmp .eql (.var 9) (.fn 8 (.pr (.var 8) (.int 2)))) (.and (.not (.cmp .lss (.var 1) (.var 8))) (.and (.not (.cmp .lss (.var 8) (.int 0))) (.and (.not (.cmp .lss (.int 50001) (.var 1))) (.and (.not (.cmp .lss (.var 1) (.int 1))) (.and (.not (.cmp .lss (.int 50001) (.var 1))) (.not (.cmp .lss (.var 1) (.int 1)))))))))) (.cmp .eql (.var 9) (.fn 8 (.pr (.var 1) (.int 2)))))
theorem fact62 (ρ : Env) : E.B ρ f62 = true := by
  unfold f62
  rw [sm_B_imp]
  simp only [sm_B_and]
  rintro ⟨p0, p1, p2, p3, p4, p5, p6, p7⟩
  simp only [sm_I_int, sm_I_fn6, sm_I_fn7, sm_I_fn8, sm_B_bool, sm_B_eql, sm_B_lss, sm_B_not, sm_B_and, sm_B_imp, sm_B_iff, sm_I_add_i64, sm_I_sub_i64, sm_I_mul_i64, sm_I_rem, sm_I_wr, sm_I_mx, sm_I_mn] at *
  try generalize E.I ρ (.var 8) = a0 at *
  try generalize E.I ρ (.var 1) = a1 at *
  try generalize E.I ρ (.var 9) = a2 at *
  omega
noncomputable def f63 : E := (.imp (.and (.fn 100 (.pr (.var 0) (.pr (.var 1) (.pr (.var 1) (.int 0))))) (.and (.cmp .lss (.var 8) (.var 1)) (.and (.cmp .eql (.fn 1 (.pr (.var 0) (.fn 6 (.pr (.fn 8 (.pr (.var 8) (.int 3))) (.int 2))))) (.int 1)) (.and (.not (.cmp .eql (.fn 1 (.pr (.var 0) (.fn 6 (.pr (.fn 8 (.pr (.var 8) (.int 3))) (.int 1))))) (.int 0))) (.and (.cmp .eql (.var 9) (.fn 8 (.pr (.var 8) (.int 2)))) (.and (.not (.cmp .lss (.var 1) (.var 8))) (.and (.not (.cmp .lss (.var 8) (.int 0))) (.and (.not (.cmp .lss (.int 50001) (.var 1))) (.and (.not (.cmp .lss (.var 1) (.int 1))) (.and (.not (.cmp .lss (.int 50001) (.var 1))) (.not (.cmp .lss (.var 1) (.int 1))))))))))))) (.cmp .eql (.fn 1 (.pr (.var 0) (.fn 6 (.pr (.fn 8 (.pr (.var 8) (.int 3))) (.int 1))))) (.int 1)))
theorem fact63 (ρ : Env) : E.B ρ f63 = true := by
  unfold f63
  rw [sm_B_imp]
  simp only [sm_B_and]
  rintro ⟨p0, p1, p2, p3, p4, p5, p6, p7, p8, p9, p10⟩
  have g0 := rows_get p0 (.var 8)
  clear p0
  simp only [sm_I_int, sm_I_fn6, sm_I_fn7, sm_I_fn8, sm_B_bool, sm_B_eql, sm_B_lss, sm_B_not, sm_B_and, sm_B_imp, sm_B_iff, sm_I_add_i64, sm_I_sub_i64, sm_I_mul_i64, sm_I_rem, sm_I_wr, sm_I_mx, sm_I_mn] at *
  try generalize E.I ρ (.var 8) = a0 at *
  try generalize E.I ρ (.var 1) = a1 at *
  try generalize E.I ρ (.fn 1 (.pr (.var 0) (.fn 6 (.pr (.fn 8 (.pr (.var 8) (.int 3))) (.int 2))))) = a2 at *
  try generalize E.I ρ (.fn 1 (.pr (.var 0) (.fn 6 (.pr (.fn 8 (.pr (.var 8) (.int 3))) (.int 1))))) = a3 at *
  try generalize E.I ρ (.var 9) = a4 at *
  omega
noncomputable def f64 : E := (.imp (.and (.fn 100 (.pr (.var 0) (.pr (.var 1) (.pr (.var 1) (.int 0))))) (.and (.cmp .lss (.var 8) (.var 1)) (.and (.not (.cmp .eql (.fn 1 (.pr (.var 0) (.fn 6 (.pr (.fn 8 (.pr (.var 8) (.int 3))) (.int 2))))) (.int 1))) (.and (.cmp .eql (.fn 1 (.pr (.var 0) (.fn 6 (.pr (.fn 8 (.pr (.var 8) (.int 3))) (.int 2))))) (.int 2)) (.and (.cmp .eql (.var 9) (.fn 8 (.pr (.var 8) (.int 2)))) (.and (.not (.cmp .lss (.var 1) (.var 8))) (.and (.not (.cmp .lss (.var 8) (.int 0))) (.and (.not (.cmp .lss (.int 50001) (.var 1))) (.and (.not (.cmp .lss (.var 1) (.int 1))) (.and (.not (.cmp .lss (.int 50001) (.var 1))) (.not (.cmp .lss (.var 1) (.int 1))))))))))))) (.cmp .eql (.fn 1 (.pr (.var 0) (.fn 6 (.pr (.fn 8 (.pr (.var 8) (.int 3))) (.int 1))))) (.int 0)))
theorem fact64 (ρ : Env) : E.B ρ f64 = true := by
  unfold f64
  rw [sm_B_imp]
  simp only [sm_B_and]
  rintro ⟨p0, p1, p2, p3, p4, p5, p6, p7, p8, p9, p10⟩
  have g0 := rows_get p0 (.var 8)
  clear p0
  simp only [sm_I_int, sm_I_fn6, sm_I_fn7, sm_I_fn8, sm_B_bool, sm_B_eql, sm_B_lss, sm_B_not, sm_B_and, sm_B_imp, sm_B_iff, sm_I_add_i64, sm_I_sub_i64, sm_I_mul_i64, sm_I_rem, sm_I_wr, sm_I_mx, sm_I_mn] at *
  try generalize E.I ρ (.var 8) = a0 at *
  try generalize E.I ρ (.var 1) = a1 at *
  try generalize E.I ρ (.fn 1 (.pr (.var 0) (.fn 6 (.pr (.fn 8 (.pr (.var 8) (.int 3))) (.int 2))))) = a2 at *
  try generalize E.I ρ (.var 9) = a3 at *
  try generalize E.I ρ (.fn 1 (.pr (.var 0) (.fn 6 (.pr (.fn 8 (.pr (.var 8) (.int 3))) (.int 1))))) = a4 at *
  omega
noncomputable def f65 : E := (.imp (.and (.cmp .eql (.var 9) (.fn 8 (.pr (.var 8) (.int 2)))) (.and (.not (.cmp .lss (.var 1) (.var 8))) (.and (.not (.cmp .lss (.var 8) (.int 0))) (.and (.not (.cmp .lss (.int 50001) (.var 1))) (.and (.not (.cmp .lss (.var 1) (.int 1))) (.and (.not (.cmp .lss (.int 50001) (.var 1))) (.not (.cmp .lss (.var 1) (.int 1))))))))) (.cmp .lss (.fn 7 (.pr (.var 1) (.ar .add .i64 (.var 8) (.int 1)))) (.fn 7 (.pr (.var 1) (.var 8)))))
theorem fact65 (ρ : Env) : E.B ρ f65 = true := by
  unfold f65
  rw [sm_B_imp]
  simp only [sm_B_and]
  rintro ⟨p0, p1, p2, p3, p4, p5, p6⟩
  simp only [sm_I_int, sm_I_fn6, sm_I_fn7, sm_I_fn8, sm_B_bool, sm_B_eql, sm_B_lss, sm_B_not, sm_B_and, sm_B_imp, sm_B_iff, sm_I_add_i64, sm_I_sub_i64, sm_I_mul_i64, sm_I_rem, sm_I_wr, sm_I_mx, sm_I_mn] at *
  try generalize E.I ρ (.var 9) = a0 at *
  try generalize E.I ρ (.var 8) = a1 at *
  try generalize E.I ρ (.var 1) = a2 at *
  obtain ⟨a3, ea3, qa3⟩ := cs_i64 (a1 + (1))
  try simp only [ea3] at *
  omega
noncomputable def f66 : E := (.imp (.and (.fn 100 (.pr (.var 0) (.pr (.var 1) (.pr (.var 1) (.int 0))))) (.and (.cmp .lss (.var 8) (.var 1)) (.and (.not (.cmp .eql (.fn 1 (.pr (.var 0) (.fn 6 (.pr (.fn 8 (.pr (.var 8) (.int 3))) (.int 2))))) (.int 1))) (.and (.not (.cmp .eql (.fn 1 (.pr (.var 0) (.fn 6 (.pr (.fn 8 (.pr (.var 8) (.int 3))) (.int 2))))) (.int 2))) (.and (.cmp .eql (.var 9) (.fn 8 (.pr (.var 8) (.int 2)))) (.and (.not (.cmp .lss (.var 1) (.var 8))) (.and (.not (.cmp .lss (.var 8) (.int 0))) (.and (.not (.cmp .lss (.int 50001) (.var 1))) (.and (.not (.cmp .lss (.var 1) (.int 1))) (.and (.not (.cmp .lss (.int 50001) (.var 1))) (.not (.cmp .lss (.var 1) (.int 1))))))))))))) (.cmp .eql (.fn 1 (.pr (.var 0) (.fn 6 (.pr (.fn 8 (.pr (.var 8) (.int 3))) (.int 0))))) (.int 0)))
theorem fact66 (ρ : Env) : E.B ρ f66 = true := by
  unfold f66
  rw [sm_B_imp]
  simp only [sm_B_and]
  rintro ⟨p0, p1, p2, p3, p4, p5, p6, p7, p8, p9, p10⟩
  have g0 := rows_get p0 (.var 8)
  clear p0
  simp only [sm_I_int, sm_I_fn6, sm_I_fn7, sm_I_fn8, sm_B_bool, sm_B_eql, sm_B_lss, sm_B_not, sm_B_and, sm_B_imp, sm_B_iff, sm_I_add_i64, sm_I_sub_i64, sm_I_mul_i64, sm_I_rem, sm_I_wr, sm_I_mx, sm_I_mn] at *
  try generalize E.I ρ (.var 8) = a0 at *
  try generalize E.I ρ (.var 1) = a1 at *
  try generalize E.I ρ (.fn 1 (.pr (.var 0) (.fn 6 (.pr (.fn 8 (.pr (.var 8) (.int 3))) (.int 2))))) = a2 at *
  try generalize E.I ρ (.var 9) = a3 at *
  try generalize E.I ρ (.fn 1 (.pr (.var 0) (.fn 6 (.pr (.fn 8 (.pr (.var 8) (.int 3))) (.int 0))))) = a4 at *
  omega
noncomputable def f67 : E := (.imp (.and (.fn 100 (.pr (.var 0) (.pr (.var 1) (.pr (.var 1) (.int 0))))) (.and (.cmp .lss (.var 8) (.var 1)) (.and (.not (.cmp .eql (.fn 1 (.pr (.var 0) (.fn 6 (.pr (.fn 8 (.pr (.var 8) (.int 3))) (.int 2))))) (.int 1))) (.and (.not (.cmp .eql (.fn 1 (.pr (.var 0) (.fn 6 (.pr (.fn 8 (.pr (.var 8) (.int 3))) (.int 2))))) (.int 2))) (.and (.cmp .eql (.var 9) (.fn 8 (.pr (.var 8) (.int 2)))) (.and (.not (.cmp .lss (.var 1) (.var 8))) (.and (.not (.cmp .lss (.var 8) (.int 0))) (.and (.not (.cmp .lss (.int 50001) (.var 1))) (.and (.not (.cmp .lss (.var 1) (.int 1))) (.and (.not (.cmp .lss (.int 50001) (.var 1))) (.not (.cmp .lss (.var 1) (.int 1))))))))))))) (.not (.cmp .eql (.fn 1 (.pr (.var 0) (.fn 6 (.pr (.fn 8 (.pr (.var 8) (.int 3))) (.int 0))))) (.int 0))))
theorem fact67 (ρ : Env) : E.B ρ f67 = true := by
  unfold f67
  rw [sm_B_imp]
  simp only [sm_B_and]
  rintro ⟨p0, p1, p2, p3, p4, p5, p6, p7, p8, p9, p10⟩
  have g0 := rows_get p0 (.var 8)
  clear p0
  simp only [sm_I_int, sm_I_fn6, sm_I_fn7, sm_I_fn8, sm_B_bool, sm_B_eql, sm_B_lss, sm_B_not, sm_B_and, sm_B_imp, sm_B_iff, sm_I_add_i64, sm_I_sub_i64, sm_I_mul_i64, sm_I_rem, sm_I_wr, sm_I_mx, sm_I_mn] at *
  try generalize E.I ρ (.var 8) = a0 at *
  try generalize E.I ρ (.var 1) = a1 at *
  try generalize E.I ρ (.fn 1 (.pr (.var 0) (.fn 6 (.pr (.fn 8 (.pr (.var 8) (.int 3))) (.int 2))))) = a2 at *
  try generalize E.I ρ (.var 9) = a3 at *
  try generalize E.I ρ (.fn 1 (.pr (.var 0) (.fn 6 (.pr (.fn 8 (.pr (.var 8) (.int 3))) (.int 0))))) = a4 at *
  omega
noncomputable def f68 : E := (.imp (.and (.cmp .lss (.var 8) (.var 1)) (.and (.cmp .eql (.var 9) (.fn 8 (.pr (.var 8) (.int 2)))) (.and (.not (.cmp .lss (.var 1) (.var 8))) (.and (.not (.cmp .lss (.var 8) (.int 0))) (.and (.not (.cmp .lss (.int 50001) (.var 1))) (.and (.not (.cmp .lss (.var 1) (.int 1))) (.and (.not (.cmp .lss (.int 50001) (.var 1))) (.not (.cmp .lss (.var 1) (.int 1)))))))))) (.not (.cmp .lss (.fn 7 (.pr (.var 1) (.ar .add .i64 (.var 8) (.int 1)))) (.int 0))))
theorem fact68 (ρ : Env) : E.B ρ f68 = true := by
  unfold f68
  rw [sm_B_imp]
  simp only [sm_B_and]
  rintro ⟨p0, p1, p2, p3, p4, p5, p6, p7⟩
  simp only [sm_I_int, sm_I_fn6, sm_I_fn7, sm_I_fn8, sm_B_bool, sm_B_eql, sm_B_lss, sm_B_not, sm_B_and, sm_B_imp, sm_B_iff, sm_I_add_i64, sm_I_sub_i64, sm_I_mul_i64, sm_I_rem, sm_I_wr, sm_I_mx, sm_I_mn] at *
  try generalize E.I ρ (.var 8) = a0 at *
  try generalize E.I ρ (.var 1) = a1 at *
  try generalize E.I ρ (.var 9) = a2 at *
  obtain ⟨a3, ea3, qa3⟩ := cs_i64 (a0 + (1))
  try simp only [ea3] at *
  omega
noncomputable def f69 : E := (.imp (.and (.fn 100 (.pr (.var 0) (.pr (.var 1) (.pr (.var 1) (.int 0))))) (.and (.cmp .lss (.var 8) (.var 1)) (.and (.cmp .eql (.fn 1 (.pr (.var 0) (.fn 6 (.pr (.fn 8 (.pr (.var 8) (.int 3))) (.int 2))))) (.int 1)) (.and (.cmp .eql (.var 9) (.fn 8 (.pr (.var 8) (.int 2)))) (.and (.not (.cmp .lss (.var 1) (.var 8))) (.and (.not (.cmp .lss (.var 8) (.int 0))) (.and (.not (.cmp .lss (.int 50001) (.var 1))) (.and (.not (.cmp .lss (.var 1) (.int 1))) (.and (.not (.cmp .lss (.int 50001) (.var 1))) (.not (.cmp .lss (.var 1) (.int 1)))))))))))) (.not (.cmp .eql (.fn 1 (.pr (.var 0) (.fn 6 (.pr (.fn 8 (.pr (.var 8) (.int 3))) (.int 1))))) (.int 0))))
theorem fact69 (ρ : Env) : E.B ρ f69 = true := by
  unfold f69
  rw [sm_B_imp]
  simp only [sm_B_and]
  rintro ⟨p0, p1, p2, p3, p4, p5, p6, p7, p8, p9⟩
  have g0 := rows_get p0 (.var 8)
  clear p0
  simp only [sm_I_int, sm_I_fn6, sm_I_fn7, sm_I_fn8, sm_B_bool, sm_B_eql, sm_B_lss, sm_B_not, sm_B_and, sm_B_imp, sm_B_iff, sm_I_add_i64, sm_I_sub_i64, sm_I_mul_i64, sm_I_rem, sm_I_wr, sm_I_mx, sm_I_mn] at *
  try generalize E.I ρ (.var 8) = a0 at *
  try generalize E.I ρ (.var 1) = a1 at *
  try generalize E.I ρ (.fn 1 (.pr (.var 0) (.fn 6 (.pr (.fn 8 (.pr (.var 8) (.int 3))) (.int 2))))) = a2 at *
  try generalize E.I ρ (.var 9) = a3 at *
  try generalize E.I ρ (.fn 1 (.pr (.var 0) (.fn 6 (.pr (.fn 8 (.pr (.var 8) (.int 3))) (.int 1))))) = a4 at *
  omega
noncomputable def f70 : E := (.imp (.and (.fn 100 (.pr (.var 0) (.pr (.var 1) (.pr (.var 1) (.int 0))))) (.and (.cmp .lss (.var 8) (.var 1)) (.and (.not (.cmp .eql (.fn 1 (.pr (.var 0) (.fn 6 (.pr (.fn 8 (.pr (.var 8) (.int 3))) (.int 2))))) (.int 1))) (.and (.cmp .eql (.fn 1 (.pr (.var 0) (.fn 6 (.pr (.fn 8 (.pr (.var 8) (.int 3))) (.int 2))))) (.int 2)) (.and (.not (.cmp .eql (.fn 1 (.pr (.var 0) (.fn 6 (.pr (.fn 8 (.pr (.var 8) (.int 3))) (.int 0))))) (.int 0))) (.and (.cmp .eql (.var 9) (.fn 8 (.pr (.var 8) (.int 2)))) (.and (.not (.cmp .lss (.var 1) (.var 8))) (.and (.not (.cmp .lss (.var 8) (.int 0))) (.and (.not (.cmp .lss (.int 50001) (.var 1))) (.and (.not (.cmp .lss (.var 1) (.int 1))) (.and (.not (.cmp .lss (.int 50001) (.var 1))) (.not (.cmp .lss (.var 1) (.int 1)))))))))))))) (.cmp .eql (.fn 1 (.pr (.var 0) (.fn 6 (.pr (.fn 8 (.pr (.var 8) (.int 3))) (.int 0))))) (.int 1)))
theorem fact70 (ρ : Env) : E.B ρ f70 = true := by
  unfold f70
  rw [sm_B_imp]
  simp only [sm_B_and]
  rintro ⟨p0, p1, p2, p3, p4, p5, p6, p7, p8, p9, p10, p11⟩
  have g0 := rows_get p0 (.var 8)
  clear p0
  simp only [sm_I_int, sm_I_fn6, sm_I_fn7, sm_I_fn8, sm_B_bool, sm_B_eql, sm_B_lss, sm_B_not, sm_B_and, sm_B_imp, sm_B_iff, sm_I_add_i64, sm_I_sub_i64, sm_I_mul_i64, sm_I_rem, sm_I_wr, sm_I_mx, sm_I_mn] at *
  try generalize E.I ρ (.var 8) = a0 at *
  try generalize E.I ρ (.var 1) = a1 at *
  try generalize E.I ρ (.fn 1 (.pr (.var 0) (.fn 6 (.pr (.fn 8 (.pr (.var 8) (.int 3))) (.int 2))))) = a2 at *
  try generalize E.I ρ (.fn 1 (.pr (.var 0) (.fn 6 (.pr (.fn 8 (.pr (.var 8) (.int 3))) (.int 0))))) = a3 at *
  try generalize E.I ρ (.var 9) = a4 at *
  omega
noncomputable def f71 : E := (.imp (.and (.fn 100 (.pr (.var 0) (.pr (.var 1) (.pr (.var 1) (.int 0))))) (.and (.cmp .lss (.var 8) (.var 1)) (.and (.not (.cmp .eql (.fn 1 (.pr (.var 0) (.fn 6 (.pr (.fn 8 (.pr (.var 8) (.int 3))) (.int 2))))) (.int 1))) (.and (.not (.cmp .eql (.fn 1 (.pr (.var 0) (.fn 6 (.pr (.fn 8 (.pr (.var 8) (.int 3))) (.int 2))))) (.int 2))) (.and (.not (.cmp .eql (.fn 1 (.pr (.var 0) (.fn 6 (.pr (.fn 8 (.pr (.var 8) (.int 3))) (.int 1))))) (.int 0))) (.and (.cmp .eql (.var 9) (.fn 8 (.pr (.var 8) (.int 2)))) (.and (.not (.cmp .lss (.var 1) (.var 8))) (.and (.not (.cmp .lss (.var 8) (.int 0))) (.and (.not (.cmp .lss (.int 50001) (.var 1))) (.and (.not (.cmp .lss (.var 1) (.int 1))) (.and (.not (.cmp .lss (.int 50001) (.var 1))) (.not (.cmp .lss (.var 1) (.int 1)))))))))))))) (.cmp .eql (.fn 1 (.pr (.var 0) (.fn 6 (.pr (.fn 8 (.pr (.var 8) (.int 3))) (.int 1))))) (.int 1)))
theorem fact71 (ρ : Env) : E.B ρ f71 = true := by
  unfold f71
  rw [sm_B_imp]
  simp only [sm_B_and]
  rintro ⟨p0, p1, p2, p3, p4, p5, p6, p7, p8, p9, p10, p11⟩
  have g0 := rows_get p0 (.var 8)
  clear p0
  simp only [sm_I_int, sm_I_fn6, sm_I_fn7, sm_I_fn8, sm_B_bool, sm_B_eql, sm_B_lss, sm_B_not, sm_B_and, sm_B_imp, sm_B_iff, sm_I_add_i64, sm_I_sub_i64, sm_I_mul_i64, sm_I_rem, sm_I_wr, sm_I_mx, sm_I_mn] at *
  try generalize E.I ρ (.var 8) = a0 at *
  try generalize E.I ρ (.var 1) = a1 at *
  try generalize E.I ρ (.fn 1 (.pr (.var 0) (.fn 6 (.pr (.fn 8 (.pr (.var 8) (.int 3))) (.int 2))))) = a2 at *
  try generalize E.I ρ (.fn 1 (.pr (.var 0) (.fn 6 (.pr (.fn 8 (.pr (.var 8) (.int 3))) (.int 1))))) = a3 at *
  try generalize E.I ρ (.var 9) = a4 at *
  omega
noncomputable def f72 : E := (.imp (.and (.fn 100 (.pr (.var 0) (.pr (.var 1) (.pr (.var 1) (.int 0))))) (.and (.cmp .lss (.var 8) (.var 1)) (.and (.cmp .eql (.fn 1 (.pr (.var 0) (.fn 6 (.pr (.fn 8 (.pr (.var 8) (.int 3))) (.int 2))))) (.int 1)) (.and (.cmp .eql (.var 9) (.fn 8 (.pr (.var 8) (.int 2)))) (.and (.not (.cmp .lss (.var 1) (.var 8))) (.and (.not (.cmp .lss (.var 8) (.int 0))) (.and (.not (.cmp .lss (.int 50001) (.var 1))) (.and (.not (.cmp .lss (.var 1) (.int 1))) (.and (.not (.cmp .lss (.int 50001) (.var 1))) (.not (.cmp .lss (.var 1) (.int 1)))))))))))) (.cmp .eql (.fn 1 (.pr (.var 0) (.fn 6 (.pr (.fn 8 (.pr (.var 8) (.int 3))) (.int 1))))) (.int 1)))
theorem fact72 (ρ : Env) : E.B ρ f72 = true := by
  unfold f72
  rw [sm_B_imp]
  simp only [sm_B_and]
  rintro ⟨p0, p1, p2, p3, p4, p5, p6, p7, p8, p9⟩
  have g0 := rows_get p0 (.var 8)
  clear p0
  simp only [sm_I_int, sm_I_fn6, sm_I_fn7, sm_I_fn8, sm_B_bool, sm_B_eql, sm_B_lss, sm_B_not, sm_B_and, sm_B_imp, sm_B_iff, sm_I_add_i64, sm_I_sub_i64, sm_I_mul_i64, sm_I_rem, sm_I_wr, sm_I_mx, sm_I_mn] at *
  try generalize E.I ρ (.var 8) = a0 at *
  try generalize E.I ρ (.var 1) = a1 at *
  try generalize E.I ρ (.fn 1 (.pr (.var 0) (.fn 6 (.pr (.fn 8 (.pr (.var 8) (.int 3))) (.int 2))))) = a2 at *
  try generalize E.I ρ (.var 9) = a3 at *
  try generalize E.I ρ (.fn 1 (.pr (.var 0) (.fn 6 (.pr (.fn 8 (.pr (.var 8) (.int 3))) (.int 1))))) = a4 at *
  omega
noncomputable def f73 : E := (.imp (.and (.fn 100 (.pr (.var 0) (.pr (.var 1) (.pr (.var 1) (.int 0))))) (.and (.cmp .lss (.var 8) (.var 1)) (.and (.not (.cmp .eql (.fn 1 (.pr (.var 0) (.fn 6 (.pr (.fn 8 (.pr (.var 8) (.int 3))) (.int 2))))) (.int 1))) (.and (.cmp .eql (.fn 1 (.pr (.var 0) (.fn 6 (.pr (.fn 8 (.pr (.var 8) (.int 3))) (.int 2))))) (.int 2)) (.and (.cmp .eql (.var 9) (.fn 8 (.pr (.var 8) (.int 2)))) (.and (.not (.cmp .lss (.var 1) (.var 8))) (.and (.not (.cmp .lss (.var 8) (.int 0))) (.and (.not (.cmp .lss (.int 50001) (.var 1))) (.and (.not (.cmp .lss (.var 1) (.int 1))) (.and (.not (.cmp .lss (.int 50001) (.var 1))) (.not (.cmp .lss (.var 1) (.int 1))))))))))))) (.not (.cmp .eql (.fn 1 (.pr (.var 0) (.fn 6 (.pr (.fn 8 (.pr (.var 8) (.int 3))) (.int 0))))) (.int 0))))
theorem fact73 (ρ : Env) : E.B ρ f73 = true := by
  unfold f73
  rw [sm_B_imp]
  simp only [sm_B_and]
  rintro ⟨p0, p1, p2, p3, p4, p5, p6, p7, p8, p9, p10⟩
  have g0 := rows_get p0 (.var 8)
  clear p0
  simp only [sm_I_int, sm_I_fn6, sm_I_fn7, sm_I_fn8, sm_B_bool, sm_B_eql, sm_B_lss, sm_B_not, sm_B_and, sm_B_imp, sm_B_iff, sm_I_add_i64, sm_I_sub_i64, sm_I_mul_i64, sm_I_rem, sm_I_wr, sm_I_mx, sm_I_mn] at *
  try generalize E.I ρ (.var 8) = a0 at *
  try generalize E.I ρ (.var 1) = a1 at *
  try generalize E.I ρ (.fn 1 (.pr (.var 0) (.fn 6 (.pr (.fn 8 (.pr (.var 8) (.int 3))) (.int 2))))) = a2 at *
  try generalize E.I ρ (.var 9) = a3 at *
  try generalize E.I ρ (.fn 1 (.pr (.var 0) (.fn 6 (.pr (.fn 8 (.pr (.var 8) (.int 3))) (.int 0))))) = a4 at *
  omega
noncomputable def f74 : E := (.imp (.and (.fn 100 (.pr (.var 0) (.pr (.var 1) (.pr (.var 1) (.int 0))))) (.and (.cmp .lss (.var 8) (.var 1)) (.and (.not (.cmp .eql (.fn 1 (.pr (.var 0) (.fn 6 (.pr (.fn 8 (.pr (.var 8) (.int 3))) (.int 2))))) (.int 1))) (.and (.not (.cmp .eql (.fn 1 (.pr (.var 0) (.fn 6 (.pr (.fn 8 (.pr (.var 8) (.int 3))) (.int 2))))) (.int 2))) (.and (.cmp .eql (.var 9) (.fn 8 (.pr (.var 8) (.int 2)))) (.and (.not (.cmp .lss (.var 1) (.var 8))) (.and (.not (.cmp .lss (.var 8) (.int 0))) (.and (.not (.cmp .lss (.int 50001) (.var 1))) (.and (.not (.cmp .lss (.var 1) (.int 1))) (.and (.not (.cmp .lss (.int 50001) (.var 1))) (.not (.cmp .lss (.var 1) (.int 1))))))))))))) (.cmp .eql (.fn 1 (.pr (.var 0) (.fn 6 (.pr (.fn 8 (.pr (.var 8) (.int 3))) (.int 1))))) (.int 0)))
theorem fact74 (ρ : Env) : E.B ρ f74 = true := by
  unfold f74
  rw [sm_B_imp]
  simp only [sm_B_and]
  rintro ⟨p0, p1, p2, p3, p4, p5, p6, p7, p8, p9, p10⟩
  have g0 := rows_get p0 (.var 8)
  clear p0
  simp only [sm_I_int, sm_I_fn6, sm_I_fn7, sm_I_fn8, sm_B_bool, sm_B_eql, sm_B_lss, sm_B_not, sm_B_and, sm_B_imp, sm_B_iff, sm_I_add_i64, sm_I_sub_i64, sm_I_mul_i64, sm_I_rem, sm_I_wr, sm_I_mx, sm_I_mn] at *
  try generalize E.I ρ (.var 8) = a0 at *
  try generalize E.I ρ (.var 1) = a1 at *
  try generalize E.I ρ (.fn 1 (.pr (.var 0) (.fn 6 (.pr (.fn 8 (.pr (.var 8) (.int 3))) (.int 2))))) = a2 at *
  try generalize E.I ρ (.var 9) = a3 at *
  try generalize E.I ρ (.fn 1 (.pr (.var 0) (.fn 6 (.pr (.fn 8 (.pr (.var 8) (.int 3))) (.int 1))))) = a4 at *
  omega
noncomputable def f75 : E := (.imp (.and (.fn 100 (.pr (.var 0) (.pr (.var 1) (.pr (.var 1) (.int 0))))) (.and (.cmp .lss (.var 8) (.var 1)) (.and (.not (.cmp .eql (.fn 1 (.pr (.var 0) (.fn 6 (.pr (.fn 8 (.pr (.var 8) (.int 3))) (.int 2))))) (.int 1))) (.and (.not (.cmp .eql (.fn 1 (.pr (.var 0) (.fn 6 (.pr (.fn 8 (.pr (.var 8) (.int 3))) (.int 2))))) (.int 2))) (.and (.cmp .eql (.var 9) (.fn 8 (.pr (.var 8) (.int 2)))) (.and (.not (.cmp .lss (.var 1) (.var 8))) (.and (.not (.cmp .lss (.var 8) (.int 0))) (.and (.not (.cmp .lss (.int 50001) (.var 1))) (.and (.not (.cmp .lss (.var 1) (.int 1))) (.and (.not (.cmp .lss (.int 50001) (.var 1))) (.not (.cmp .lss (.var 1) (.int 1))))))))))))) (.not (.cmp .eql (.fn 1 (.pr (.var 0) (.fn 6 (.pr (.fn 8 (.pr (.var 8) (.int 3))) (.int 1))))) (.int 0))))
theorem fact75 (ρ : Env) : E.B ρ f75 = true := by
  unfold f75
  rw [sm_B_imp]
  simp only [sm_B_and]
  rintro ⟨p0, p1, p2, p3, p4, p5, p6, p7, p8, p9, p10⟩
  have g0 := rows_get p0 (.var 8)
  clear p0
  simp only [sm_I_int, sm_I_fn6, sm_I_fn7, sm_I_fn8, sm_B_bool, sm_B_eql, sm_B_lss, sm_B_not, sm_B_and, sm_B_imp, sm_B_iff, sm_I_add_i64, sm_I_sub_i64, sm_I_mul_i64, sm_I_rem, sm_I_wr, sm_I_mx, sm_I_mn] at *
  try generalize E.I ρ (.var 8) = a0 at *
  try generalize E.I ρ (.var 1) = a1 at *
  try generalize E.I ρ (.fn 1 (.pr (.var 0) (.fn 6 (.pr (.fn 8 (.pr (.var 8) (.int 3))) (.int 2))))) = a2 at *
  try generalize E.I ρ (.var 9) = a3 at *
  try generalize E.I ρ (.fn 1 (.pr (.var 0) (.fn 6 (.pr (.fn 8 (.pr (.var 8) (.int 3))) (.int 1))))) = a4 at *
  omega
noncomputable def f76 : E := (.imp (.and (.fn 100 (.pr (.var 0) (.pr (.var 1) (.pr (.var 1) (.int 0))))) (.and (.cmp .lss (.var 8) (.var 1)) (.and (.not (.cmp .eql (.fn 1 (.pr (.var 0) (.fn 6 (.pr (.fn 8 (.pr (.var 8) (.int 3))) (.int 2))))) (.int 1))) (.and (.cmp .eql (.fn 1 (.pr (.var 0) (.fn 6 (.pr (.fn 8 (.pr (.var 8) (.int 3))) (.int 2))))) (.int 2)) (.and (.cmp .eql (.var 9) (.fn 8 (.pr (.var 8) (.int 2)))) (.and (.not (.cmp .lss (.var 1) (.var 8))) (.and (.not (.cmp .lss (.var 8) (.int 0))) (.and (.not (.cmp .lss (.int 50001) (.var 1))) (.and (.not (.cmp .lss (.var 1) (.int 1))) (.and (.not (.cmp .lss (.int 50001) (.var 1))) (.not (.cmp .lss (.var 1) (.int 1))))))))))))) (.cmp .eql (.fn 1 (.pr (.var 0) (.fn 6 (.pr (.fn 8 (.pr (.var 8) (.int 3))) (.int 0))))) (.int 1)))
theorem fact76 (ρ : Env) : E.B ρ f76 = true := by
  unfold f76
  rw [sm_B_imp]
  simp only [sm_B_and]
  rintro ⟨p0, p1, p2, p3, p4, p5, p6, p7, p8, p9, p10⟩
  have g0 := rows_get p0 (.var 8)
  clear p0
  simp only [sm_I_int, sm_I_fn6, sm_I_fn7, sm_I_fn8, sm_B_bool, sm_B_eql, sm_B_lss, sm_B_not, sm_B_and, sm_B_imp, sm_B_iff, sm_I_add_i64, sm_I_sub_i64, sm_I_mul_i64, sm_I_rem, sm_I_wr, sm_I_mx, sm_I_mn] at *
  try generalize E.I ρ (.var 8) = a0 at *
  try generalize E.I ρ (.var 1) = a1 at *
  try generalize E.I ρ (.fn 1 (.pr (.var 0) (.fn 6 (.pr (.fn 8 (.pr (.var 8) (.int 3))) (.int 2))))) = a2 at *
  try generalize E.I ρ (.var 9) = a3 at *
  try generalize E.I ρ (.fn 1 (.pr (.var 0) (.fn 6 (.pr (.fn 8 (.pr (.var 8) (.int 3))) (.int 0))))) = a4 at *
  omega
noncomputable def f77 : E := (.imp (.and (.fn 100 (.pr (.var 0) (.pr (.var 1) (.pr (.var 1) (.int 0))))) (.and (.cmp .lss (.var 8) (.var 1)) (.and (.not (.cmp .eql (.fn 1 (.pr (.var 0) (.fn 6 (.pr (.fn 8 (.pr (.var 8) (.int 3))) (.int 2))))) (.int 1))) (.and (.cmp .eql (.var 9) (.fn 8 (.pr (.var 8) (.int 2)))) (.and (.not (.cmp .lss (.var 1) (.var 8))) (.and (.not (.cmp .lss (.var 8) (.int 0))) (.and (.not (.cmp .lss (.int 50001) (.var 1))) (.and (.not (.cmp .lss (.var 1) (.int 1))) (.and (.not (.cmp .lss (.int 50001) (.var 1))) (.not (.cmp .lss (.var 1) (.int 1)))))))))))) (.cmp .eql (.fn 1 (.pr (.var 0) (.fn 6 (.pr (.fn 8 (.pr (.var 8) (.int 3))) (.int 2))))) (.int 2)))
theorem fact77 (ρ : Env) : E.B ρ f77 = true := by
  unfold f77
  rw [sm_B_imp]
  simp only [sm_B_and]
  rintro ⟨p0, p1, p2, p3, p4, p5, p6, p7, p8, p9⟩
  have g0 := rows_get p0 (.var 8)
  clear p0
  simp only [sm_I_int, sm_I_fn6, sm_I_fn7, sm_I_fn8, sm_B_bool, sm_B_eql, sm_B_lss, sm_B_not, sm_B_and, sm_B_imp, sm_B_iff, sm_I_add_i64, sm_I_sub_i64, sm_I_mul_i64, sm_I_rem, sm_I_wr, sm_I_mx, sm_I_mn] at *
  try generalize E.I ρ (.var 8) = a0 at *
  try generalize E.I ρ (.var 1) = a1 at *
  try generalize E.I ρ (.fn 1 (.pr (.var 0) (.fn 6 (.pr (.fn 8 (.pr (.var 8) (.int 3))) (.int 2))))) = a2 at *
  try generalize E.I ρ (.var 9) = a3 at *
  omega
noncomputable def f78 : E := (.imp (.and (.fn 100 (.pr (.var 0) (.pr (.var 1) (.pr (.var 1) (.int 0))))) (.and (.cmp .lss (.var 8) (.var 1)) (.and (.not (.cmp .eql (.fn 1 (.pr (.var 0) (.fn 6 (.pr (.fn 8 (.pr (.var 8) (.int 3))) (.int 2))))) (.int 1))) (.and (.cmp .eql (.fn 1 (.pr (.var 0) (.fn 6 (.pr (.fn 8 (.pr (.var 8) (.int 3))) (.int 1))))) (.int 0)) (.and (.not (.cmp .eql (.fn 1 (.pr (.var 0) (.fn 6 (.pr (.fn 8 (.pr (.var 8) (.int 3))) (.int 0))))) (.int 0))) (.and (.cmp .eql (.var 9) (.fn 8 (.pr (.var 8) (.int 2)))) (.and (.not (.cmp .lss (.var 1) (.var 8))) (.and (.not (.cmp .lss (.var 8) (.int 0))) (.and (.not (.cmp .lss (.int 50001) (.var 1))) (.and (.not (.cmp .lss (.var 1) (.int 1))) (.and (.not (.cmp .lss (.int 50001) (.var 1))) (.not (.cmp .lss (.var 1) (.int 1)))))))))))))) (.cmp .eql (.fn 1 (.pr (.var 0) (.fn 6 (.pr (.fn 8 (.pr (.var 8) (.int 3))) (.int 0))))) (.int 1)))
theorem fact78 (ρ : Env) : E.B ρ f78 = true := by
  unfold f78
  rw [sm_B_imp]
  simp only [sm_B_and]
  rintro ⟨p0, p1, p2, p3, p4, p5, p6, p7, p8, p9, p10, p11⟩
  have g0 := rows_get p0 (.var 8)
  clear p0
  simp only [sm_I_int, sm_I_fn6, sm_I_fn7, sm_I_fn8, sm_B_bool, sm_B_eql, sm_B_lss, sm_B_not, sm_B_and, sm_B_imp, sm_B_iff, sm_I_add_i64, sm_I_sub_i64, sm_I_mul_i64, sm_I_rem, sm_I_wr, sm_I_mx, sm_I_mn] at *
  try generalize E.I ρ (.var 8) = a0 at *
  try generalize E.I ρ (.var 1) = a1 at *
  try generalize E.I ρ (.fn 1 (.pr (.var 0) (.fn 6 (.pr (.fn 8 (.pr (.var 8) (.int 3))) (.int 2))))) = a2 at *
  try generalize E.I ρ (.fn 1 (.pr (.var 0) (.fn 6 (.pr (.fn 8 (.pr (.var 8) (.int 3))) (.int 1))))) = a3 at *
  try generalize E.I ρ (.fn 1 (.pr (.var 0) (.fn 6 (.pr (.fn 8 (.pr (.var 8) (.int 3))) (.int 0))))) = a4 at *
  try generalize E.I ρ (.var 9) = a5 at *
  omega
noncomputable def f79 : E := (.imp (.and (.fn 100 (.pr (.var 0) (.pr (.var 1) (.pr (.var 1) (.int 0))))) (.and (.cmp .lss (.var 8) (.var 1)) (.and (.not (.cmp .eql (.fn 1 (.pr (.var 0) (.fn 6 (.pr (.fn 8 (.pr (.var 8) (.int 3))) (.int 2))))) (.int 1))) (.and (.not (.cmp .eql (.fn 1 (.pr (.var 0) (.fn 6 (.pr (.fn 8 (.pr (.var 8) (.int 3))) (.int 1))))) (.int 0))) (.and (.cmp .eql (.fn 1 (.pr (.var 0) (.fn 6 (.pr (.fn 8 (.pr (.var 8) (.int 3))) (.int 1))))) (.int 1)) (.and (.not (.cmp .eql (.fn 1 (.pr (.var 0) (.fn 6 (.pr (.fn 8 (.pr (.var 8) (.int 3))) (.int 0))))) (.int 0))) (.and (.cmp .eql (.var 9) (.fn 8 (.pr (.var 8) (.int 2)))) (.and (.not (.cmp .lss (.var 1) (.var 8))) (.and (.not (.cmp .lss (.var 8) (.int 0))) (.and (.not (.cmp .lss (.int 50001) (.var 1))) (.and (.not (.cmp .lss (.var 1) (.int 1))) (.and (.not (.cmp .lss (.int 50001) (.var 1))) (.not (.cmp .lss (.var 1) (.int 1))))))))))))))) (.cmp .eql (.fn 1 (.pr (.var 0) (.fn 6 (.pr (.fn 8 (.pr (.var 8) (.int 3))) (.int 0))))) (.int 1)))
theorem fact79 (ρ : Env) : E.B ρ f79 = true := by
  unfold f79
  rw [sm_B_imp]
  simp only [sm_B_and]
  rintro ⟨p0, p1, p2, p3, p4, p5, p6, p7, p8, p9, p10, p11, p12⟩
  have g0 := rows_get p0 (.var 8)
  clear p0
  simp only [sm_I_int, sm_I_fn6, sm_I_fn7, sm_I_fn8, sm_B_bool, sm_B_eql, sm_B_lss, sm_B_not, sm_B_and, sm_B_imp, sm_B_iff, sm_I_add_i64, sm_I_sub_i64, sm_I_mul_i64, sm_I_rem, sm_I_wr, sm_I_mx, sm_I_mn] at *
  try generalize E.I ρ (.var 8) = a0 at *
  try generalize E.I ρ (.var 1) = a1 at *
  try generalize E.I ρ (.fn 1 (.pr (.var 0) (.fn 6 (.pr (.fn 8 (.pr (.var 8) (.int 3))) (.int 2))))) = a2 at *
  try generalize E.I ρ (.fn 1 (.pr (.var 0) (.fn 6 (.pr (.fn 8 (.pr (.var 8) (.int 3))) (.int 1))))) = a3 at *
  try generalize E.I ρ (.fn 1 (.pr (.var 0) (.fn 6 (.pr (.fn 8 (.pr (.var 8) (.int 3))) (.int 0))))) = a4 at *
  try generalize E.I ρ (.var 9) = a5 at *
  omega
noncomputable def f80 : E := (.imp (.and (.fn 100 (.pr (.var 0) (.pr (.var 1) (.pr (.var 1) (.int 0))))) (.and (.cmp .lss (.var 8) (.var 1)) (.and (.not (.cmp .eql (.fn 1 (.pr (.var 0) (.fn 6 (.pr (.fn 8 (.pr (.var 8) (.int 3))) (.int 2))))) (.int 1))) (.and (.not (.cmp .eql (.fn 1 (.pr (.var 0) (.fn 6 (.pr (.fn 8 (.pr (.var 8) (.int 3))) (.int 1))))) (.int 0))) (.and (.cmp .eql (.var 9) (.fn 8 (.pr (.var 8) (.int 2)))) (.and (.not (.cmp .lss (.var 1) (.var 8))) (.and (.not (.cmp .lss (.var 8) (.int 0))) (.and (.not (.cmp .lss (.int 50001) (.var 1))) (.and (.not (.cmp .lss (.var 1) (.int 1))) (.and (.not (.cmp .lss (.int 50001) (.var 1))) (.not (.cmp .lss (.var 1) (.int 1))))))))))))) (.cmp .eql (.fn 1 (.pr (.var 0) (.fn 6 (.pr (.fn 8 (.pr (.var 8) (.int 3))) (.int 1))))) (.int 1)))
theorem fact80 (ρ : Env) : E.B ρ f80 = true := by
  unfold f80
  rw [sm_B_imp]
  simp only [sm_B_and]
  rintro ⟨p0, p1, p2, p3, p4, p5, p6, p7, p8, p9, p10⟩
  have g0 := rows_get p0 (.var 8)
  clear p0
  simp only [sm_I_int, sm_I_fn6, sm_I_fn7, sm_I_fn8, sm_B_bool, sm_B_eql, sm_B_lss, sm_B_not, sm_B_and, sm_B_imp, sm_B_iff, sm_I_add_i64, sm_I_sub_i64, sm_I_mul_i64, sm_I_rem, sm_I_wr, sm_I_mx, sm_I_mn] at *
  try generalize E.I ρ (.var 8) = a0 at *
  try generalize E.I ρ (.var 1) = a1 at *
  try generalize E.I ρ (.fn 1 (.pr (.var 0) (.fn 6 (.pr (.fn 8 (.pr (.var 8) (.int 3))) (.int 2))))) = a2 at *
  try generalize E.I ρ (.fn 1 (.pr (.var 0) (.fn 6 (.pr (.fn 8 (.pr (.var 8) (.int 3))) (.int 1))))) = a3 at *
  try generalize E.I ρ (.var 9) = a4 at *
  omega
noncomputable def f81 : E := (.imp (.and (.fn 100 (.pr (.var 0) (.pr (.var 1) (.pr (.var 1) (.int 0))))) (.and (.cmp .lss (.var 8) (.var 1)) (.and (.not (.cmp .eql (.fn 1 (.pr (.var 0) (.fn 6 (.pr (.fn 8 (.pr (.var 8) (.int 3))) (.int 2))))) (.int 1))) (.and (.not (.cmp .eql (.fn 1 (.pr (.var 0) (.fn 6 (.pr (.fn 8 (.pr (.var 8) (.int 3))) (.int 1))))) (.int 0))) (.and (.not (.cmp .eql (.fn 1 (.pr (.var 0) (.fn 6 (.pr (.fn 8 (.pr (.var 8) (.int 3))) (.int 0))))) (.int 0))) (.and (.cmp .eql (.var 9) (.fn 8 (.pr (.var 8) (.int 2)))) (.and (.not (.cmp .lss (.var 1) (.var 8))) (.and (.not (.cmp .lss (.var 8) (.int 0))) (.and (.not (.cmp .lss (.int 50001) (.var 1))) (.and (.not (.cmp .lss (.var 1) (.int 1))) (.and (.not (.cmp .lss (.int 50001) (.var 1))) (.not (.cmp .lss (.var 1) (.int 1)))))))))))))) (.cmp .eql (.fn 1 (.pr (.var 0) (.fn 6 (.pr (.fn 8 (.pr (.var 8) (.int 3))) (.int 0))))) (.int 1)))
theorem fact81 (ρ : Env) : E.B ρ f81 = true := by
  unfold f81
  rw [sm_B_imp]
  simp only [sm_B_and]
  rintro ⟨p0, p1, p2, p3, p4, p5, p6, p7, p8, p9, p10, p11⟩
  have g0 := rows_get p0 (.var 8)
  clear p0
  simp only [sm_I_int, sm_I_fn6, sm_I_fn7, sm_I_fn8, sm_B_bool, sm_B_eql, sm_B_lss, sm_B_not, sm_B_and, sm_B_imp, sm_B_iff, sm_I_add_i64, sm_I_sub_i64, sm_I_mul_i64, sm_I_rem, sm_I_wr, sm_I_mx, sm_I_mn] at *
  try generalize E.I ρ (.var 8) = a0 at *
  try generalize E.I ρ (.var 1) = a1 at *
  try generalize E.I ρ (.fn 1 (.pr (.var 0) (.fn 6 (.pr (.fn 8 (.pr (.var 8) (.int 3))) (.int 2))))) = a2 at *
  try generalize E.I ρ (.fn 1 (.pr (.var 0) (.fn 6 (.pr (.fn 8 (.pr (.var 8) (.int 3))) (.int 1))))) = a3 at *
  try generalize E.I ρ (.fn 1 (.pr (.var 0) (.fn 6 (.pr (.fn 8 (.pr (.var 8) (.int 3))) (.int 0))))) = a4 at *
  try generalize E.I ρ (.var 9) = a5 at *
  omega
noncomputable def f82 : E := (.imp (.and (.fn 100 (.pr (.var 0) (.pr (.var 1) (.pr (.var 1) (.int 0))))) (.and (.cmp .lss (.var 8) (.var 1)) (.and (.not (.cmp .eql (.fn 1 (.pr (.var 0) (.fn 6 (.pr (.fn 8 (.pr (.var 8) (.int 3))) (.int 2))))) (.int 1))) (.and (.not (.cmp .eql (.fn 1 (.pr (.var 0) (.fn 6 (.pr (.fn 8 (.pr (.var 8) (.int 3))) (.int 1))))) (.int 0))) (.and (.cmp .eql (.var 9) (.fn 8 (.pr (.var 8) (.int 2)))) (.and (.not (.cmp .lss (.var 1) (.var 8))) (.and (.not (.cmp .lss (.var 8) (.int 0))) (.and (.not (.cmp .lss (.int 50001) (.var 1))) (.and (.not (.cmp .lss (.var 1) (.int 1))) (.and (.not (.cmp .lss (.int 50001) (.var 1))) (.not (.cmp .lss (.var 1) (.int 1))))))))))))) (.cmp .eql (.fn 1 (.pr (.var 0) (.fn 6 (.pr (.fn 8 (.pr (.var 8) (.int 3))) (.int 0))))) (.int 0)))
theorem fact82 (ρ : Env) : E.B ρ f82 = true := by
  unfold f82
  rw [sm_B_imp]
  simp only [sm_B_and]
  rintro ⟨p0, p1, p2, p3, p4, p5, p6, p7, p8, p9, p10⟩
  have g0 := rows_get p0 (.var 8)
  clear p0
  simp only [sm_I_int, sm_I_fn6, sm_I_fn7, sm_I_fn8, sm_B_bool, sm_B_eql, sm_B_lss, sm_B_not, sm_B_and, sm_B_imp, sm_B_iff, sm_I_add_i64, sm_I_sub_i64, sm_I_mul_i64, sm_I_rem, sm_I_wr, sm_I_mx, sm_I_mn] at *
  try generalize E.I ρ (.var 8) = a0 at *
  try generalize E.I ρ (.var 1) = a1 at *
  try generalize E.I ρ (.fn 1 (.pr (.var 0) (.fn 6 (.pr (.fn 8 (.pr (.var 8) (.int 3))) (.int 2))))) = a2 at *
  try generalize E.I ρ (.fn 1 (.pr (.var 0) (.fn 6 (.pr (.fn 8 (.pr (.var 8) (.int 3))) (.int 1))))) = a3 at *
  try generalize E.I ρ (.var 9) = a4 at *
  try generalize E.I ρ (.fn 1 (.pr (.var 0) (.fn 6 (.pr (.fn 8 (.pr (.var 8) (.int 3))) (.int 0))))) = a5 at *
  omega
noncomputable def f83 : E := (.imp (.and (.fn 100 (.pr (.var 0) (.pr (.var 1) (.pr (.var 1) (.int 0))))) (.and (.cmp .lss (.var 8) (.var 1)) (.and (.not (.cmp .eql (.fn 1 (.pr (.var 0) (.fn 6 (.pr (.fn 8 (.pr (.var 8) (.int 3))) (.int 2))))) (.int 1))) (.and (.not (.cmp .eql (.fn 1 (.pr (.var 0) (.fn 6 (.pr (.fn 8 (.pr (.var 8) (.int 3))) (.int 1))))) (.int 0))) (.and (.cmp .eql (.var 9) (.fn 8 (.pr (.var 8) (.int 2)))) (.and (.not (.cmp .lss (.var 1) (.var 8))) (.and (.not (.cmp .lss (.var 8) (.int 0))) (.and (.not (.cmp .lss (.int 50001) (.var 1))) (.and (.not (.cmp .lss (.var 1) (.int 1))) (.and (.not (.cmp .lss (.int 50001) (.var 1))) (.not (.cmp .lss (.var 1) (.int 1))))))))))))) (.not (.cmp .eql (.fn 1 (.pr (.var 0) (.fn 6 (.pr (.fn 8 (.pr (.var 8) (.int 3))) (.int 0))))) (.int 0))))
theorem fact83 (ρ : Env) : E.B ρ f83 = true := by
  unfold f83
  rw [sm_B_imp]
  simp only [sm_B_and]
  rintro ⟨p0, p1, p2, p3, p4, p5, p6, p7, p8, p9, p10⟩
  have g0 := rows_get p0 (.var 8)
  clear p0
  simp only [sm_I_int, sm_I_fn6, sm_I_fn7, sm_I_fn8, sm_B_bool, sm_B_eql, sm_B_lss, sm_B_not, sm_B_and, sm_B_imp, sm_B_iff, sm_I_add_i64, sm_I_sub_i64, sm_I_mul_i64, sm_I_rem, sm_I_wr, sm_I_mx, sm_I_mn] at *
  try generalize E.I ρ (.var 8) = a0 at *
  try generalize E.I ρ (.var 1) = a1 at *
  try generalize E.I ρ (.fn 1 (.pr (.var 0) (.fn 6 (.pr (.fn 8 (.pr (.var 8) (.int 3))) (.int 2))))) = a2 at *
  try generalize E.I ρ (.fn 1 (.pr (.var 0) (.fn 6 (.pr (.fn 8 (.pr (.var 8) (.int 3))) (.int 1))))) = a3 at *
  try generalize E.I ρ (.var 9) = a4 at *
  try generalize E.I ρ (.fn 1 (.pr (.var 0) (.fn 6 (.pr (.fn 8 (.pr (.var 8) (.int 3))) (.int 0))))) = a5 at *
  omega
noncomputable def f84 : E := (.imp (.and (.fn 100 (.pr (.var 0) (.pr (.var 1) (.pr (.var 1) (.int 0))))) (.and (.cmp .lss (.var 8) (.var 1)) (.and (.not (.cmp .eql (.fn 1 (.pr (.var 0) (.fn 6 (.pr (.fn 8 (.pr (.var 8) (.int 3))) (.int 2))))) (.int 1))) (.and (.cmp .eql (.fn 1 (.pr (.var 0) (.fn 6 (.pr (.fn 8 (.pr (.var 8) (.int 3))) (.int 1))))) (.int 0)) (.and (.cmp .eql (.var 9) (.fn 8 (.pr (.var 8) (.int 2)))) (.and (.not (.cmp .lss (.var 1) (.var 8))) (.and (.not (.cmp .lss (.var 8) (.int 0))) (.and (.not (.cmp .lss (.int 50001) (.var 1))) (.and (.not (.cmp .lss (.var 1) (.int 1))) (.and (.not (.cmp .lss (.int 50001) (.var 1))) (.not (.cmp .lss (.var 1) (.int 1))))))))))))) (.not (.cmp .eql (.fn 1 (.pr (.var 0) (.fn 6 (.pr (.fn 8 (.pr (.var 8) (.int 3))) (.int 0))))) (.int 0))))
theorem fact84 (ρ : Env) : E.B ρ f84 = true := by
  unfold f84
  rw [sm_B_imp]
  simp only [sm_B_and]
  rintro ⟨p0, p1, p2, p3, p4, p5, p6, p7, p8, p9, p10⟩
  have g0 := rows_get p0 (.var 8)
  clear p0
  simp only [sm_I_int, sm_I_fn6, sm_I_fn7, sm_I_fn8, sm_B_bool, sm_B_eql, sm_B_lss, sm_B_not, sm_B_and, sm_B_imp, sm_B_iff, sm_I_add_i64, sm_I_sub_i64, sm_I_mul_i64, sm_I_rem, sm_I_wr, sm_I_mx, sm_I_mn] at *
  try generalize E.I ρ (.var 8) = a0 at *
  try generalize E.I ρ (.var 1) = a1 at *
  try generalize E.I ρ (.fn 1 (.pr (.var 0) (.fn 6 (.pr (.fn 8 (.pr (.var 8) (.int 3))) (.int 2))))) = a2 at *
  try generalize E.I ρ (.fn 1 (.pr (.var 0) (.fn 6 (.pr (.fn 8 (.pr (.var 8) (.int 3))) (.int 1))))) = a3 at *
  try generalize E.I ρ (.var 9) = a4 at *
  try generalize E.I ρ (.fn 1 (.pr (.var 0) (.fn 6 (.pr (.fn 8 (.pr (.var 8) (.int 3))) (.int 0))))) = a5 at *
  omega
noncomputable def f85 : E := (.imp (.and (.fn 100 (.pr (.var 0) (.pr (.var 1) (.pr (.var 1) (.int 0))))) (.and (.cmp .lss (.var 8) (.var 1)) (.and (.not (.cmp .eql (.fn 1 (.pr (.var 0) (.fn 6 (.pr (.fn 8 (.pr (.var 8) (.int 3))) (.int 2))))) (.int 1))) (.and (.cmp .eql (.fn 1 (.pr (.var 0) (.fn 6 (.pr (.fn 8 (.pr (.var 8) (.int 3))) (.int 1))))) (.int 0)) (.and (.cmp .eql (.var 9) (.fn 8 (.pr (.var 8) (.int 2)))) (.and (.not (.cmp .lss (.var 1) (.var 8))) (.and (.not (.cmp .lss (.var 8) (.int 0))) (.and (.not (.cmp .lss (.int 50001) (.var 1))) (.and (.not (.cmp .lss (.var 1) (.int 1))) (.and (.not (.cmp .lss (.int 50001) (.var 1))) (.not (.cmp .lss (.var 1) (.int 1))))))))))))) (.cmp .eql (.fn 1 (.pr (.var 0) (.fn 6 (.pr (.fn 8 (.pr (.var 8) (.int 3))) (.int 0))))) (.int 1)))
theorem fact85 (ρ : Env) : E.B ρ f85 = true := by
  unfold f85
  rw [sm_B_imp]
  simp only [sm_B_and]
  rintro ⟨p0, p1, p2, p3, p4, p5, p6, p7, p8, p9, p10⟩
  have g0 := rows_get p0 (.var 8)
  clear p0
  simp only [sm_I_int, sm_I_fn6, sm_I_fn7, sm_I_fn8, sm_B_bool, sm_B_eql, sm_B_lss, sm_B_not, sm_B_and, sm_B_imp, sm_B_iff, sm_I_add_i64, sm_I_sub_i64, sm_I_mul_i64, sm_I_rem, sm_I_wr, sm_I_mx, sm_I_mn] at *
  try generalize E.I ρ (.var 8) = a0 at *
  try generalize E.I ρ (.var 1) = a1 at *
  try generalize E.I ρ (.fn 1 (.pr (.var 0) (.fn 6 (.pr (.fn 8 (.pr (.var 8) (.int 3))) (.int 2))))) = a2 at *
  try generalize E.I ρ (.fn 1 (.pr (.var 0) (.fn 6 (.pr (.fn 8 (.pr (.var 8) (.int 3))) (.int 1))))) = a3 at *
  try generalize E.I ρ (.var 9) = a4 at *
  try generalize E.I ρ (.fn 1 (.pr (.var 0) (.fn 6 (.pr (.fn 8 (.pr (.var 8) (.int 3))) (.int 0))))) = a5 at *
  omega
noncomputable def f86 : E := (.imp (.and (.fn 100 (.pr (.var 0) (.pr (.var 1) (.pr (.var 1) (.int 0))))) (.and (.cmp .lss (.var 8) (.var 1)) (.and (.not (.cmp .eql (.fn 1 (.pr (.var 0) (.fn 6 (.pr (.fn 8 (.pr (.var 8) (.int 3))) (.int 2))))) (.int 1))) (.and (.cmp .eql (.var 9) (.fn 8 (.pr (.var 8) (.int 2)))) (.and (.not (.cmp .lss (.var 1) (.var 8))) (.and (.not (.cmp .lss (.var 8) (.int 0))) (.and (.not (.cmp .lss (.int 50001) (.var 1))) (.and (.not (.cmp .lss (.var 1) (.int 1))) (.and (.not (.cmp .lss (.int 50001) (.var 1))) (.not (.cmp .lss (.var 1) (.int 1)))))))))))) (.cmp .eql (.fn 1 (.pr (.var 0) (.fn 6 (.pr (.fn 8 (.pr (.var 8) (.int 3))) (.int 1))))) (.int 0)))
theorem fact86 (ρ : Env) : E.B ρ f86 = true := by
  unfold f86
  rw [sm_B_imp]
  simp only [sm_B_and]
  rintro ⟨p0, p1, p2, p3, p4, p5, p6, p7, p8, p9⟩
  have g0 := rows_get p0 (.var 8)
  clear p0
  simp only [sm_I_int, sm_I_fn6, sm_I_fn7, sm_I_fn8, sm_B_bool, sm_B_eql, sm_B_lss, sm_B_not, sm_B_and, sm_B_imp, sm_B_iff, sm_I_add_i64, sm_I_sub_i64, sm_I_mul_i64, sm_I_rem, sm_I_wr, sm_I_mx, sm_I_mn] at *
  try generalize E.I ρ (.var 8) = a0 at *
  try generalize E.I ρ (.var 1) = a1 at *
  try generalize E.I ρ (.fn 1 (.pr (.var 0) (.fn 6 (.pr (.fn 8 (.pr (.var 8) (.int 3))) (.int 2))))) = a2 at *
  try generalize E.I ρ (.var 9) = a3 at *
  try generalize E.I ρ (.fn 1 (.pr (.var 0) (.fn 6 (.pr (.fn 8 (.pr (.var 8) (.int 3))) (.int 1))))) = a4 at *
  omega
noncomputable def f87 : E := (.imp (.and (.fn 100 (.pr (.var 0) (.pr (.var 1) (.pr (.var 1) (.int 0))))) (.and (.cmp .lss (.var 8) (.var 1)) (.and (.not (.cmp .eql (.fn 1 (.pr (.var 0) (.fn 6 (.pr (.fn 8 (.pr (.var 8) (.int 3))) (.int 2))))) (.int 1))) (.and (.not (.cmp .eql (.fn 1 (.pr (.var 0) (.fn 6 (.pr (.fn 8 (.pr (.var 8) (.int 3))) (.int 0))))) (.int 0))) (.and (.cmp .eql (.var 9) (.fn 8 (.pr (.var 8) (.int 2)))) (.and (.not (.cmp .lss (.var 1) (.var 8))) (.and (.not (.cmp .lss (.var 8) (.int 0))) (.and (.not (.cmp .lss (.int 50001) (.var 1))) (.and (.not (.cmp .lss (.var 1) (.int 1))) (.and (.not (.cmp .lss (.int 50001) (.var 1))) (.not (.cmp .lss (.var 1) (.int 1))))))))))))) (.cmp .eql (.fn 1 (.pr (.var 0) (.fn 6 (.pr (.fn 8 (.pr (.var 8) (.int 3))) (.int 0))))) (.int 1)))
theorem fact87 (ρ : Env) : E.B ρ f87 = true := by
  unfold f87
  rw [sm_B_imp]
  simp only [sm_B_and]
  rintro ⟨p0, p1, p2, p3, p4, p5, p6, p7, p8, p9, p10⟩
  have g0 := rows_get p0 (.var 8)
  clear p0
  simp only [sm_I_int, sm_I_fn6, sm_I_fn7, sm_I_fn8, sm_B_bool, sm_B_eql, sm_B_lss, sm_B_not, sm_B_and, sm_B_imp, sm_B_iff, sm_I_add_i64, sm_I_sub_i64, sm_I_mul_i64, sm_I_rem, sm_I_wr, sm_I_mx, sm_I_mn] at *
  try generalize E.I ρ (.var 8) = a0 at *
  try generalize E.I ρ (.var 1) = a1 at *
  try generalize E.I ρ (.fn 1 (.pr (.var 0) (.fn 6 (.pr (.fn 8 (.pr (.var 8) (.int 3))) (.int 2))))) = a2 at *
  try generalize E.I ρ (.fn 1 (.pr (.var 0) (.fn 6 (.pr (.fn 8 (.pr (.var 8) (.int 3))) (.int 0))))) = a3 at *
  try generalize E.I ρ (.var 9) = a4 at *
  omega
noncomputable def f88 : E := (.imp (.and (.fn 100 (.pr (.var 0) (.pr (.var 1) (.pr (.var 1) (.int 0))))) (.and (.cmp .lss (.var 8) (.var 1)) (.and (.not (.cmp .eql (.fn 1 (.pr (.var 0) (.fn 6 (.pr (.fn 8 (.pr (.var 8) (.int 3))) (.int 2))))) (.int 1))) (.and (.cmp .eql (.var 9) (.fn 8 (.pr (.var 8) (.int 2)))) (.and (.not (.cmp .lss (.var 1) (.var 8))) (.and (.not (.cmp .lss (.var 8) (.int 0))) (.and (.not (.cmp .lss (.int 50001) (.var 1))) (.and (.not (.cmp .lss (.var 1) (.int 1))) (.and (.not (.cmp .lss (.int 50001) (.var 1))) (.not (.cmp .lss (.var 1) (.int 1)))))))))))) (.not (.cmp .eql (.fn 1 (.pr (.var 0) (.fn 6 (.pr (.fn 8 (.pr (.var 8) (.int 3))) (.int 0))))) (.int 0))))
theorem fact88 (ρ : Env) : E.B ρ f88 = true := by
  unfold f88
  rw [sm_B_imp]
  simp only [sm_B_and]
  rintro ⟨p0, p1, p2, p3, p4, p5, p6, p7, p8, p9⟩
  have g0 := rows_get p0 (.var 8)
  clear p0
  simp only [sm_I_int, sm_I_fn6, sm_I_fn7, sm_I_fn8, sm_B_bool, sm_B_eql, sm_B_lss, sm_B_not, sm_B_and, sm_B_imp, sm_B_iff, sm_I_add_i64, sm_I_sub_i64, sm_I_mul_i64, sm_I_rem, sm_I_wr, sm_I_mx, sm_I_mn] at *
  try generalize E.I ρ (.var 8) = a0 at *
  try generalize E.I ρ (.var 1) = a1 at *
  try generalize E.I ρ (.fn 1 (.pr (.var 0) (.fn 6 (.pr (.fn 8 (.pr (.var 8) (.int 3))) (.int 2))))) = a2 at *
  try generalize E.I ρ (.var 9) = a3 at *
  try generalize E.I ρ (.fn 1 (.pr (.var 0) (.fn 6 (.pr (.fn 8 (.pr (.var 8) (.int 3))) (.int 0))))) = a4 at *
  omega
noncomputable def f89 : E := (.imp (.and (.fn 100 (.pr (.var 0) (.pr (.var 1) (.pr (.var 1) (.int 0))))) (.and (.cmp .lss (.var 8) (.var 1)) (.and (.not (.cmp .eql (.fn 1 (.pr (.var 0) (.fn 6 (.pr (.fn 8 (.pr (.var 8) (.int 3))) (.int 2))))) (.int 1))) (.and (.cmp .eql (.var 9) (.fn 8 (.pr (.var 8) (.int 2)))) (.and (.not (.cmp .lss (.var 1) (.var 8))) (.and (.not (.cmp .lss (.var 8) (.int 0))) (.and (.not (.cmp .lss (.int 50001) (.var 1))) (.and (.not (.cmp .lss (.var 1) (.int 1))) (.and (.not (.cmp .lss (.int 50001) (.var 1))) (.not (.cmp .lss (.var 1) (.int 1)))))))))))) (.cmp .eql (.fn 1 (.pr (.var 0) (.fn 6 (.pr (.fn 8 (.pr (.var 8) (.int 3))) (.int 0))))) (.int 1)))
theorem fact89 (ρ : Env) : E.B ρ f89 = true := by
  unfold f89
  rw [sm_B_imp]
  simp only [sm_B_and]
  rintro ⟨p0, p1, p2, p3, p4, p5, p6, p7, p8, p9⟩
  have g0 := rows_get p0 (.var 8)
  clear p0
  simp only [sm_I_int, sm_I_fn6, sm_I_fn7, sm_I_fn8, sm_B_bool, sm_B_eql, sm_B_lss, sm_B_not, sm_B_and, sm_B_imp, sm_B_iff, sm_I_add_i64, sm_I_sub_i64, sm_I_mul_i64, sm_I_rem, sm_I_wr, sm_I_mx, sm_I_mn] at *
  try generalize E.I ρ (.var 8) = a0 at *
  try generalize E.I ρ (.var 1) = a1 at *
  try generalize E.I ρ (.fn 1 (.pr (.var 0) (.fn 6 (.pr (.fn 8 (.pr (.var 8) (.int 3))) (.int 2))))) = a2 at *
  try generalize E.I ρ (.var 9) = a3 at *
  try generalize E.I ρ (.fn 1 (.pr (.var 0) (.fn 6 (.pr (.fn 8 (.pr (.var 8) (.int 3))) (.int 0))))) = a4 at *
  omega
noncomputable def facts : List E := [f0, f1, f2, f3, f4, f5, f6, f7, f8, f9, f10, f11, f12, f13, f14, f15, f16, f17, f18, f19, f20, f21, f22, f23, f24, f25, f26, f27, f28, f29, f30, f31, f32, f33, f34, f35, f36, f37, f38, f39, f40, f41, f42, f43, f44, f45, f46, f47, f48, f49, f50, f51, f52, f53, f54, f55, f56, f57, f58, f59, f60, f61, f62, f63, f64, f65, f66, f67, f68, f69, f70, f71, f72, f73, f74, f75, f76, f77, f78, f79, f80, f81, f82, f83, f84, f85, f86, f87, f88, f89]
theorem facts_ok : ∀ e ∈ facts, ∀ ρ : Env, E.B ρ e = true := (all_cons fact0 (all_cons fact1 (all_cons fact2 (all_cons fact3 (all_cons fact4 (all_cons fact5 (all_cons fact6 (all_cons fact7 (all_cons fact8 (all_cons fact9 (all_cons fact10 (all_cons fact11 (all_cons fact12 (all_cons fact13 (all_cons fact14 (all_cons fact15 (all_cons fact16 (all_cons fact17 (all_cons fact18 (all_cons fact19 (all_cons fact20 (all_cons fact21 (all_cons fact22 (all_cons fact23 (all_cons fact24 (all_cons fact25 (all_cons fact26 (all_cons fact27 (all_cons fact28 (all_cons fact29 (all_cons fact30 (all_cons fact31 (all_cons fact32 (all_cons fact33 (all_cons fact34 (all_cons fact35 (all_cons fact36 (all_cons fact37 (all_cons fact38 (all_cons fact39 (all_cons fact40 (all_cons fact41 (all_cons fact42 (all_cons fact43 (all_cons fact44 (all_cons fact45 (all_cons fact46 (all_cons fact47 (all_cons fact48 (all_cons fact49 (all_cons fact50 (all_cons fact51 (all_cons fact52 (all_cons fact53 (all_cons fact54 (all_cons fact55 (all_cons fact56 (all_cons fact57 (all_cons fact58 (all_cons fact59 (all_cons fact60 (all_cons fact61 (all_cons fact62 (all_cons fact63 (all_cons fact64 (all_cons fact65 (all_cons fact66 (all_cons fact67 (all_cons fact68 (all_cons fact69 (all_cons fact70 (all_cons fact71 (all_cons fact72 (all_cons fact73 (all_cons fact74 (all_cons fact75 (all_cons fact76 (all_cons fact77 (all_cons fact78 (all_cons fact79 (all_cons fact80 (all_cons fact81 (all_cons fact82 (all_cons fact83 (all_cons fact84 (all_cons fact85 (all_cons fact86 (all_cons fact87 (all_cons fact88 (all_cons fact89 all_nil))))))))))))))))))))))))))))))))))))))))))))))))))))))))))))))))))))))))))))))))))))))))))
end p1
set_option maxRecDepth 100000 in
theorem spec1_0 : NatOk Try.prog (specNat (spA)) :=
  spec_of_check good (facts := p1.facts) p1.facts_ok (anns := annsA) (plainAnns_ok _ (by kernel_rfl)) (nats := natl2) natl2_ok (n := 3000) (by kernel_rfl)
noncomputable def natl3 : List Nat1 := specNat (spA) :: natl2
theorem natl3_ok : ∀ x ∈ natl3, NatOk Try.prog x := by
  intro x hx
  rcases List.mem_cons.1 hx with rfl | hx
  · exact spec1_0
  exact natl2_ok x hx

namespace m
noncomputable def f0 : E := (.imp (.and (.not (.cmp .lss (.int 9223372036854775807) (.var 1))) (.and (.not (.cmp .lss (.var 1) (.int (-9223372036854775808)))) (.and (.not (.cmp .lss (.int 9223372036854775807) (.var 0))) (.and (.not (.cmp .lss (.var 0) (.int (-9223372036854775808)))) (.and (.not (.cmp .lss (.var 0) (.int 49999))) (.and (.not (.cmp .lss (.var 1) (.int 49998))) (.and (.not (.cmp .lss (.int 50002) (.var 1))) (.and (.not (.cmp .lss (.int 50001) (.var 0))) (.and (.not (.cmp .lss (.int 50002) (.var 1))) (.and (.not (.cmp .lss (.int 50001) (.var 0))) (.and (.not (.cmp .lss (.int 50002) (.var 1))) (.not (.cmp .lss (.int 50001) (.var 0)))))))))))))) (.fn 100 (.pr (.fn 17 (.pr (.var 0) (.fn 23 (.pr (.int 0) (.fn 23 (.pr (.int 0) (.fn 23 (.pr (.int 0) (.fn 10 (.int 0)))))))))) (.pr (.int 0) (.pr (.var 0) (.int 0))))))
theorem fact0 (ρ : Env) : E.B ρ f0 = true := by
  unfold f0
  rw [sm_B_imp]
  simp only [sm_B_and]
  rintro ⟨p0, p1, p2, p3, p4, p5, p6, p7, p8, p9, p10, p11⟩
  exact rows_zero
noncomputable def f1 : E := (.imp (.and (.cmp .lss (.var 9) (.var 0)) (.and (.not (.cmp .lss (.int 50002) (.var 1))) (.and (.not (.cmp .lss (.var 1) (.int 1))) (.and (.not (.cmp .lss (.int 50001) (.var 0))) (.and (.not (.cmp .lss (.var 0) (.int 1))) (.and (.not (.cmp .lss (.var 0) (.var 9))) (.and (.not (.cmp .lss (.var 9) (.int 0))) (.and (.fn 100 (.pr (.var 8) (.pr (.var 9) (.pr (.var 0) (.int 0))))) (.and (.not (.cmp .lss (.int 50002) (.var 1))) (.and (.not (.cmp .lss (.var 1) (.int 1))) (.and (.not (.cmp .lss (.int 50001) (.var 0))) (.and (.not (.cmp .lss (.var 0) (.int 1))) (.and (.not (.cmp .lss (.int 50002) (.var 1))) (.and (.not (.cmp .lss (.var 1) (.int 1))) (.and (.not (.cmp .lss (.int 50001) (.var 0))) (.not (.cmp .lss (.var 0) (.int 1)))))))))))))))))) (.fn 100 (.pr (.fn 2 (.pr (.fn 2 (.pr (.fn 2 (.pr (.var 8) (.pr (.fn 6 (.pr (.fn 8 (.pr (.var 9) (.int 3))) (.int 0))) (.int 0)))) (.pr (.fn 6 (.pr (.fn 8 (.pr (.var 9) (.int 3))) (.int 1))) (.int 1)))) (.pr (.fn 6 (.pr (.fn 8 (.pr (.var 9) (.int 3))) (.int 2))) (.int 1)))) (.pr (.ar .add .i64 (.var 9) (.int 1)) (.pr (.var 0) (.int 0))))))
theorem fact1 (ρ : Env) : E.B ρ f1 = true := by
  unfold f1
  rw [sm_B_imp]
  simp only [sm_B_and]
  rintro ⟨p0, p1, p2, p3, p4, p5, p6, p7, p8, p9, p10, p11, p12, p13, p14, p15⟩
  refine rows_set p7 ?_ ?_ (by decide) ?_
  all_goals
    clear p7
    simp only [sm_I_int, sm_I_fn6, sm_I_fn7, sm_I_fn8, sm_B_bool, sm_B_eql, sm_B_lss, sm_B_not, sm_B_and, sm_B_imp, sm_B_iff, sm_I_add_i64, sm_I_sub_i64, sm_I_mul_i64, sm_I_rem, sm_I_wr, sm_I_mx, sm_I_mn] at *
    try (obtain ⟨y, ey, qy⟩ := cs_i64 (E.I ρ (.var 9) + 1); simp only [ey] at *)
    omega
noncomputable def f2 : E := (.imp (.and (.not (.cmp .lss (.var 9) (.var 0))) (.and (.not (.cmp .lss (.int 50002) (.var 1))) (.and (.not (.cmp .lss (.var 1) (.int 1))) (.and (.not (.cmp .lss (.int 50001) (.var 0))) (.and (.not (.cmp .lss (.var 0) (.int 1))) (.and (.not (.cmp .lss (.var 0) (.var 9))) (.and (.not (.cmp .lss (.var 9) (.int 0))) (.and (.fn 100 (.pr (.var 8) (.pr (.var 9) (.pr (.var 0) (.int 0))))) (.and (.not (.cmp .lss (.int 50002) (.var 1))) (.and (.not (.cmp .lss (.var 1) (.int 1))) (.and (.not (.cmp .lss (.int 50001) (.var 0))) (.and (.not (.cmp .lss (.var 0) (.int 1))) (.and (.not (.cmp .lss (.int 50002) (.var 1))) (.and (.not (.cmp .lss (.var 1) (.int 1))) (.and (.not (.cmp .lss (.int 50001) (.var 0))) (.not (.cmp .lss (.var 0) (.int 1)))))))))))))))))) (.fn 100 (.pr (.var 8) (.pr (.var 0) (.pr (.var 0) (.int 0))))))
theorem fact2 (ρ : Env) : E.B ρ f2 = true := by
  unfold f2
  rw [sm_B_imp]
  simp only [sm_B_and]
  rintro ⟨p0, p1, p2, p3, p4, p5, p6, p7, p8, p9, p10, p11, p12, p13, p14, p15⟩
  refine rows_congr p7 ?_
  simp only [sm_I_int, sm_I_fn6, sm_I_fn7, sm_I_fn8, sm_B_bool, sm_B_eql, sm_B_lss, sm_B_not, sm_B_and, sm_B_imp, sm_B_iff, sm_I_add_i64, sm_I_sub_i64, sm_I_mul_i64, sm_I_rem, sm_I_wr, sm_I_mx, sm_I_mn] at *
  omega
noncomputable def f3 : E := (.imp (.and (.not (.cmp .lss (.int 50001) (.var 0))) (.and (.not (.cmp .lss (.var 0) (.int 1))) (.and (.not (.cmp .lss (.var 0) (.var 9))) (.and (.not (.cmp .lss (.var 9) (.int 0))) (.and (.not (.cmp .lss (.int 50001) (.var 0))) (.and (.not (.cmp .lss (.var 0) (.int 1))) (.and (.not (.cmp .lss (.int 50001) (.var 0))) (.not (.cmp .lss (.var 0) (.int 1)))))))))) (.not (.cmp .lss (.ar .add .i64 (.var 9) (.int 1)) (.int 0))))
theorem fact3 (ρ : Env) : E.B ρ f3 = true := by
  unfold f3
  rw [sm_B_imp]
  simp only [sm_B_and]
  rintro ⟨p0, p1, p2, p3, p4, p5, p6, p7⟩
  simp only [sm_I_int, sm_I_fn6, sm_I_fn7, sm_I_fn8, sm_B_bool, sm_B_eql, sm_B_lss, sm_B_not, sm_B_and, sm_B_imp, sm_B_iff, sm_I_add_i64, sm_I_sub_i64, sm_I_mul_i64, sm_I_rem, sm_I_wr, sm_I_mx, sm_I_mn] at *
  try generalize E.I ρ (.var 0) = a0 at *
  try generalize E.I ρ (.var 9) = a1 at *
  obtain ⟨a2, ea2, qa2⟩ := cs_i64 (a1 + (1))
  try simp only [ea2] at *
  omega
noncomputable def f4 : E := (.imp (.and (.not (.cmp .lss (.var 9) (.var 0))) (.and (.cmp .eql (.var 11) (.fn 8 (.pr (.var 0) (.int 2)))) (.and (.cmp .eql (.var 10) (.var 0)) (.and (.not (.cmp .lss (.int 50002) (.var 1))) (.and (.not (.cmp .lss (.var 1) (.int 1))) (.and (.not (.cmp .lss (.int 50001) (.var 0))) (.and (.not (.cmp .lss (.var 0) (.int 1))) (.and (.not (.cmp .lss (.var 0) (.var 9))) (.and (.not (.cmp .lss (.var 9) (.int 0))) (.and (.fn 100 (.pr (.var 8) (.pr (.var 9) (.pr (.var 0) (.int 0))))) (.and (.not (.cmp .lss (.int 50002) (.var 1))) (.and (.not (.cmp .lss (.var 1) (.int 1))) (.and (.not (.cmp .lss (.int 50001) (.var 0))) (.and (.not (.cmp .lss (.var 0) (.int 1))) (.and (.not (.cmp .lss (.int 50002) (.var 1))) (.and (.not (.cmp .lss (.var 1) (.int 1))) (.and (.not (.cmp .lss (.int 50001) (.var 0))) (.not (.cmp .lss (.var 0) (.int 1)))))))))))))))))))) (.fn 100 (.pr (.fn 17 (.pr (.var 1) (.fn 23 (.pr (.int 0) (.fn 23 (.pr (.int 0) (.fn 23 (.pr (.int 0) (.fn 10 (.int 0)))))))))) (.pr (.int 0) (.pr (.var 1) (.int 1))))))
theorem fact4 (ρ : Env) : E.B ρ f4 = true := by
  unfold f4
  rw [sm_B_imp]
  simp only [sm_B_and]
  rintro ⟨p0, p1, p2, p3, p4, p5, p6, p7, p8, p9, p10, p11, p12, p13, p14, p15, p16, p17⟩
  exact rows_zero
noncomputable def f5 : E := (.imp (.and (.cmp .lss (.var 9) (.var 0)) (.and (.not (.cmp .lss (.int 50001) (.var 0))) (.and (.not (.cmp .lss (.var 0) (.int 1))) (.and (.not (.cmp .lss (.var 0) (.var 9))) (.and (.not (.cmp .lss (.var 9) (.int 0))) (.and (.not (.cmp .lss (.int 50001) (.var 0))) (.and (.not (.cmp .lss (.var 0) (.int 1))) (.and (.not (.cmp .lss (.int 50001) (.var 0))) (.not (.cmp .lss (.var 0) (.int 1))))))))))) (.not (.cmp .lss (.var 0) (.ar .add .i64 (.var 9) (.int 1)))))
theorem fact5 (ρ : Env) : E.B ρ f5 = true := by
  unfold f5
  rw [sm_B_imp]
  simp only [sm_B_and]
  rintro ⟨p0, p1, p2, p3, p4, p5, p6, p7, p8⟩
  simp only [sm_I_int, sm_I_fn6, sm_I_fn7, sm_I_fn8, sm_B_bool, sm_B_eql, sm_B_lss, sm_B_not, sm_B_and, sm_B_imp, sm_B_iff, sm_I_add_i64, sm_I_sub_i64, sm_I_mul_i64, sm_I_rem, sm_I_wr, sm_I_mx, sm_I_mn] at *
  try generalize E.I ρ (.var 9) = a0 at *
  try generalize E.I ρ (.var 0) = a1 at *
  obtain ⟨a2, ea2, qa2⟩ := cs_i64 (a0 + (1))
  try simp only [ea2] at *
  omega
noncomputable def f6 : E := (.imp (.and (.cmp .lss (.var 17) (.var 1)) (.and (.not (.cmp .lss (.var 1) (.var 17))) (.and (.not (.cmp .lss (.var 17) (.int 0))) (.and (.fn 100 (.pr (.var 16) (.pr (.var 17) (.pr (.var 1) (.int 1))))) (.and (.cmp .eql (.var 19) (.fn 8 (.pr (.var 0) (.int 2)))) (.and (.cmp .eql (.var 18) (.var 0)) (.and (.not (.cmp .lss (.int 50002) (.var 1))) (.and (.not (.cmp .lss (.var 1) (.int 1))) (.and (.not (.cmp .lss (.int 50001) (.var 0))) (.and (.not (.cmp .lss (.var 0) (.int 1))) (.and (.not (.cmp .lss (.int 50002) (.var 1))) (.and (.not (.cmp .lss (.var 1) (.int 1))) (.and (.not (.cmp .lss (.int 50001) (.var 0))) (.and (.not (.cmp .lss (.var 0) (.int 1))) (.and (.not (.cmp .lss (.int 50002) (.var 1))) (.and (.not (.cmp .lss (.var 1) (.int 1))) (.and (.not (.cmp .lss (.int 50001) (.var 0))) (.not (.cmp .lss (.var 0) (.int 1)))))))))))))))))))) (.fn 100 (.pr (.fn 2 (.pr (.fn 2 (.pr (.fn 2 (.pr (.var 16) (.pr (.fn 6 (.pr (.fn 8 (.pr (.var 17) (.int 3))) (.int 0))) (.int 1)))) (.pr (.fn 6 (.pr (.fn 8 (.pr (.var 17) (.int 3))) (.int 1))) (.int 0)))) (.pr (.fn 6 (.pr (.fn 8 (.pr (.var 17) (.int 3))) (.int 2))) (.int 1)))) (.pr (.ar .add .i64 (.var 17) (.int 1)) (.pr (.var 1) (.int 1))))))
theorem fact6 (ρ : Env) : E.B ρ f6 = true := by
  unfold f6
  rw [sm_B_imp]
  simp only [sm_B_and]
  rintro ⟨p0, p1, p2, p3, p4, p5, p6, p7, p8, p9, p10, p11, p12, p13, p14, p15, p16, p17⟩
  refine rows_set p3 ?_ ?_ (by decide) ?_
  all_goals
    clear p3
    simp only [sm_I_int, sm_I_fn6, sm_I_fn7, sm_I_fn8, sm_B_bool, sm_B_eql, sm_B_lss, sm_B_not, sm_B_and, sm_B_imp, sm_B_iff, sm_I_add_i64, sm_I_sub_i64, sm_I_mul_i64, sm_I_rem, sm_I_wr, sm_I_mx, sm_I_mn] at *
    try (obtain ⟨y, ey, qy⟩ := cs_i64 (E.I ρ (.var 17) + 1); simp only [ey] at *)
    omega
noncomputable def f7 : E := (.imp (.and (.not (.cmp .lss (.var 17) (.var 1))) (.and (.not (.cmp .lss (.var 1) (.var 17))) (.and (.not (.cmp .lss (.var 17) (.int 0))) (.and (.fn 100 (.pr (.var 16) (.pr (.var 17) (.pr (.var 1) (.int 1))))) (.and (.cmp .eql (.var 19) (.fn 8 (.pr (.var 0) (.int 2)))) (.and (.cmp .eql (.var 18) (.var 0)) (.and (.not (.cmp .lss (.int 50002) (.var 1))) (.and (.not (.cmp .lss (.var 1) (.int 1))) (.and (.not (.cmp .lss (.int 50001) (.var 0))) (.and (.not (.cmp .lss (.var 0) (.int 1))) (.and (.not (.cmp .lss (.int 50002) (.var 1))) (.and (.not (.cmp .lss (.var 1) (.int 1))) (.and (.not (.cmp .lss (.int 50001) (.var 0))) (.and (.not (.cmp .lss (.var 0) (.int 1))) (.and (.not (.cmp .lss (.int 50002) (.var 1))) (.and (.not (.cmp .lss (.var 1) (.int 1))) (.and (.not (.cmp .lss (.int 50001) (.var 0))) (.not (.cmp .lss (.var 0) (.int 1)))))))))))))))))))) (.fn 100 (.pr (.var 16) (.pr (.var 1) (.pr (.var 1) (.int 1))))))
theorem fact7 (ρ : Env) : E.B ρ f7 = true := by
  unfold f7
  rw [sm_B_imp]
  simp only [sm_B_and]
  rintro ⟨p0, p1, p2, p3, p4, p5, p6, p7, p8, p9, p10, p11, p12, p13, p14, p15, p16, p17⟩
  refine rows_congr p3 ?_
  simp only [sm_I_int, sm_I_fn6, sm_I_fn7, sm_I_fn8, sm_B_bool, sm_B_eql, sm_B_lss, sm_B_not, sm_B_and, sm_B_imp, sm_B_iff, sm_I_add_i64, sm_I_sub_i64, sm_I_mul_i64, sm_I_rem, sm_I_wr, sm_I_mx, sm_I_mn] at *
  omega
noncomputable def f8 : E := (.imp (.and (.not (.cmp .lss (.int 50001) (.var 0))) (.and (.not (.cmp .lss (.var 0) (.int 1))) (.and (.not (.cmp .lss (.var 0) (.var 9))) (.and (.not (.cmp .lss (.var 9) (.int 0))) (.and (.not (.cmp .lss (.int 50001) (.var 0))) (.and (.not (.cmp .lss (.var 0) (.int 1))) (.and (.not (.cmp .lss (.int 50001) (.var 0))) (.not (.cmp .lss (.var 0) (.int 1)))))))))) (.cmp .lss (.fn 7 (.pr (.var 0) (.ar .add .i64 (.var 9) (.int 1)))) (.fn 7 (.pr (.var 0) (.var 9)))))
theorem fact8 (ρ : Env) : E.B ρ f8 = true := by
  unfold f8
  rw [sm_B_imp]
  simp only [sm_B_and]
  rintro ⟨p0, p1, p2, p3, p4, p5, p6, p7⟩
  simp only [sm_I_int, sm_I_fn6, sm_I_fn7, sm_I_fn8, sm_B_bool, sm_B_eql, sm_B_lss, sm_B_not, sm_B_and, sm_B_imp, sm_B_iff, sm_I_add_i64, sm_I_sub_i64, sm_I_mul_i64, sm_I_rem, sm_I_wr, sm_I_mx, sm_I_mn] at *
  try generalize E.I ρ (.var 0) = a0 at *
  try generalize E.I ρ (.var 9) = a1 at *
  obtain ⟨a2, ea2, qa2⟩ := cs_i64 (a1 + (1))
  try simp only [ea2] at *
  omega
noncomputable def f9 : E := (.imp (.and (.not (.cmp .lss (.var 1) (.var 17))) (.and (.not (.cmp .lss (.var 17) (.int 0))) (.and (.not (.cmp .lss (.int 50002) (.var 1))) (.and (.not (.cmp .lss (.var 1) (.int 1))) (.and (.not (.cmp .lss (.int 50002) (.var 1))) (.and (.not (.cmp .lss (.var 1) (.int 1))) (.and (.not (.cmp .lss (.int 50002) (.var 1))) (.not (.cmp .lss (.var 1) (.int 1)))))))))) (.not (.cmp .lss (.ar .add .i64 (.var 17) (.int 1)) (.int 0))))
theorem fact9 (ρ : Env) : E.B ρ f9 = true := by
  unfold f9
  rw [sm_B_imp]
  simp only [sm_B_and]
  rintro ⟨p0, p1, p2, p3, p4, p5, p6, p7⟩
  simp only [sm_I_int, sm_I_fn6, sm_I_fn7, sm_I_fn8, sm_B_bool, sm_B_eql, sm_B_lss, sm_B_not, sm_B_and, sm_B_imp, sm_B_iff, sm_I_add_i64, sm_I_sub_i64, sm_I_mul_i64, sm_I_rem, sm_I_wr, sm_I_mx, sm_I_mn] at *
  try generalize E.I ρ (.var 1) = a0 at *
  try generalize E.I ρ (.var 17) = a1 at *
  obtain ⟨a2, ea2, qa2⟩ := cs_i64 (a1 + (1))
  try simp only [ea2] at *
  omega
noncomputable def f10 : E := (.imp (.and (.cmp .eql (.var 19) (.fn 8 (.pr (.var 0) (.int 2)))) (.and (.cmp .eql (.var 18) (.var 0)) (.and (.not (.cmp .lss (.int 50001) (.var 0))) (.and (.not (.cmp .lss (.var 0) (.int 1))) (.and (.not (.cmp .lss (.int 50001) (.var 0))) (.and (.not (.cmp .lss (.var 0) (.int 1))) (.and (.not (.cmp .lss (.int 50001) (.var 0))) (.not (.cmp .lss (.var 0) (.int 1)))))))))) (.not (.cmp .lss (.var 18) (.int 1))))
theorem fact10 (ρ : Env) : E.B ρ f10 = true := by
  unfold f10
  rw [sm_B_imp]
  simp only [sm_B_and]
  rintro ⟨p0, p1, p2, p3, p4, p5, p6, p7⟩
  simp only [sm_I_int, sm_I_fn6, sm_I_fn7, sm_I_fn8, sm_B_bool, sm_B_eql, sm_B_lss, sm_B_not, sm_B_and, sm_B_imp, sm_B_iff, sm_I_add_i64, sm_I_sub_i64, sm_I_mul_i64, sm_I_rem, sm_I_wr, sm_I_mx, sm_I_mn] at *
  try generalize E.I ρ (.var 19) = a0 at *
  try generalize E.I ρ (.var 0) = a1 at *
  try generalize E.I ρ (.var 18) = a2 at *
  omega
noncomputable def f11 : E := (.imp (.and (.cmp .lss (.var 9) (.var 0)) (.and (.not (.cmp .lss (.int 50001) (.var 0))) (.and (.not (.cmp .lss (.var 0) (.int 1))) (.and (.not (.cmp .lss (.var 0) (.var 9))) (.and (.not (.cmp .lss (.var 9) (.int 0))) (.and (.not (.cmp .lss (.int 50001) (.var 0))) (.and (.not (.cmp .lss (.var 0) (.int 1))) (.and (.not (.cmp .lss (.int 50001) (.var 0))) (.not (.cmp .lss (.var 0) (.int 1))))))))))) (.not (.cmp .lss (.fn 7 (.pr (.var 0) (.ar .add .i64 (.var 9) (.int 1)))) (.int 0))))
theorem fact11 (ρ : Env) : E.B ρ f11 = true := by
  unfold f11
  rw [sm_B_imp]
  simp only [sm_B_and]
  rintro ⟨p0, p1, p2, p3, p4, p5, p6, p7, p8⟩
  simp only [sm_I_int, sm_I_fn6, sm_I_fn7, sm_I_fn8, sm_B_bool, sm_B_eql, sm_B_lss, sm_B_not, sm_B_and, sm_B_imp, sm_B_iff, sm_I_add_i64, sm_I_sub_i64, sm_I_mul_i64, sm_I_rem, sm_I_wr, sm_I_mx, sm_I_mn] at *
  try generalize E.I ρ (.var 9) = a0 at *
  try generalize E.I ρ (.var 0) = a1 at *
  obtain ⟨a2, ea2, qa2⟩ := cs_i64 (a0 + (1))
  try simp only [ea2] at *
  omega
noncomputable def f12 : E := (.imp (.and (.cmp .lss (.var 17) (.var 1)) (.and (.not (.cmp .lss (.var 1) (.var 17))) (.and (.not (.cmp .lss (.var 17) (.int 0))) (.and (.not (.cmp .lss (.int 50002) (.var 1))) (.and (.not (.cmp .lss (.var 1) (.int 1))) (.and (.not (.cmp .lss (.int 50002) (.var 1))) (.and (.not (.cmp .lss (.var 1) (.int 1))) (.and (.not (.cmp .lss (.int 50002) (.var 1))) (.not (.cmp .lss (.var 1) (.int 1))))))))))) (.not (.cmp .lss (.var 1) (.ar .add .i64 (.var 17) (.int 1)))))
theorem fact12 (ρ : Env) : E.B ρ f12 = true := by
  unfold f12
  rw [sm_B_imp]
  simp only [sm_B_and]
  rintro ⟨p0, p1, p2, p3, p4, p5, p6, p7, p8⟩
  simp only [sm_I_int, sm_I_fn6, sm_I_fn7, sm_I_fn8, sm_B_bool, sm_B_eql, sm_B_lss, sm_B_not, sm_B_and, sm_B_imp, sm_B_iff, sm_I_add_i64, sm_I_sub_i64, sm_I_mul_i64, sm_I_rem, sm_I_wr, sm_I_mx, sm_I_mn] at *
  try generalize E.I ρ (.var 17) = a0 at *
  try generalize E.I ρ (.var 1) = a1 at *
  obtain ⟨a2, ea2, qa2⟩ := cs_i64 (a0 + (1))
  try simp only [ea2] at *
  omega
noncomputable def f13 : E := (.imp (.and (.cmp .eql (.var 19) (.fn 8 (.pr (.var 0) (.int 2)))) (.and (.cmp .eql (.var 18) (.var 0)) (.and (.not (.cmp .lss (.int 50001) (.var 0))) (.and (.not (.cmp .lss (.var 0) (.int 1))) (.and (.not (.cmp .lss (.int 50001) (.var 0))) (.and (.not (.cmp .lss (.var 0) (.int 1))) (.and (.not (.cmp .lss (.int 50001) (.var 0))) (.not (.cmp .lss (.var 0) (.int 1)))))))))) (.not (.cmp .lss (.int 100001) (.var 18))))
theorem fact13 (ρ : Env) : E.B ρ f13 = true := by
  unfold f13
  rw [sm_B_imp]
  simp only [sm_B_and]
  rintro ⟨p0, p1, p2, p3, p4, p5, p6, p7⟩
  simp only [sm_I_int, sm_I_fn6, sm_I_fn7, sm_I_fn8, sm_B_bool, sm_B_eql, sm_B_lss, sm_B_not, sm_B_and, sm_B_imp, sm_B_iff, sm_I_add_i64, sm_I_sub_i64, sm_I_mul_i64, sm_I_rem, sm_I_wr, sm_I_mx, sm_I_mn] at *
  try generalize E.I ρ (.var 19) = a0 at *
  try generalize E.I ρ (.var 0) = a1 at *
  try generalize E.I ρ (.var 18) = a2 at *
  omega
noncomputable def f14 : E := (.imp (.and (.not (.cmp .lss (.var 1) (.var 17))) (.and (.not (.cmp .lss (.var 17) (.int 0))) (.and (.not (.cmp .lss (.int 50002) (.var 1))) (.and (.not (.cmp .lss (.var 1) (.int 1))) (.and (.not (.cmp .lss (.int 50002) (.var 1))) (.and (.not (.cmp .lss (.var 1) (.int 1))) (.and (.not (.cmp .lss (.int 50002) (.var 1))) (.not (.cmp .lss (.var 1) (.int 1)))))))))) (.cmp .lss (.fn 7 (.pr (.var 1) (.ar .add .i64 (.var 17) (.int 1)))) (.fn 7 (.pr (.var 1) (.var 17)))))
theorem fact14 (ρ : Env) : E.B ρ f14 = true := by
  unfold f14
  rw [sm_B_imp]
  simp only [sm_B_and]
  rintro ⟨p0, p1, p2, p3, p4, p5, p6, p7⟩
  simp only [sm_I_int, sm_I_fn6, sm_I_fn7, sm_I_fn8, sm_B_bool, sm_B_eql, sm_B_lss, sm_B_not, sm_B_and, sm_B_imp, sm_B_iff, sm_I_add_i64, sm_I_sub_i64, sm_I_mul_i64, sm_I_rem, sm_I_wr, sm_I_mx, sm_I_mn] at *
  try generalize E.I ρ (.var 1) = a0 at *
  try generalize E.I ρ (.var 17) = a1 at *
  obtain ⟨a2, ea2, qa2⟩ := cs_i64 (a1 + (1))
  try simp only [ea2] at *
  omega
noncomputable def f15 : E := (.imp (.and (.cmp .eql (.var 19) (.fn 8 (.pr (.var 0) (.int 2)))) (.and (.cmp .eql (.var 18) (.var 0)) (.and (.not (.cmp .lss (.int 50001) (.var 0))) (.and (.not (.cmp .lss (.var 0) (.int 1))) (.and (.not (.cmp .lss (.int 50001) (.var 0))) (.and (.not (.cmp .lss (.var 0) (.int 1))) (.and (.not (.cmp .lss (.int 50001) (.var 0))) (.not (.cmp .lss (.var 0) (.int 1)))))))))) (.cmp .eql (.var 19) (.fn 8 (.pr (.var 18) (.int 2)))))
theorem fact15 (ρ : Env) : E.B ρ f15 = true := by
  unfold f15
  rw [sm_B_imp]
  simp only [sm_B_and]
  rintro ⟨p0, p1, p2, p3, p4, p5, p6, p7⟩
  simp only [sm_I_int, sm_I_fn6, sm_I_fn7, sm_I_fn8, sm_B_bool, sm_B_eql, sm_B_lss, sm_B_not, sm_B_and, sm_B_imp, sm_B_iff, sm_I_add_i64, sm_I_sub_i64, sm_I_mul_i64, sm_I_rem, sm_I_wr, sm_I_mx, sm_I_mn] at *
  try generalize E.I ρ (.var 19) = a0 at *
  try generalize E.I ρ (.var 0) = a1 at *
  try generalize E.I ρ (.var 18) = a2 at *
  omega
noncomputable def f16 : E := (.imp (.and (.cmp .lss (.var 17) (.var 1)) (.and (.not (.cmp .lss (.var 1) (.var 17))) (.and (.not (.cmp .lss (.var 17) (.int 0))) (.and (.not (.cmp .lss (.int 50002) (.var 1))) (.and (.not (.cmp .lss (.var 1) (.int 1))) (.and (.not (.cmp .lss (.int 50002) (.var 1))) (.and (.not (.cmp .lss (.var 1) (.int 1))) (.and (.not (.cmp .lss (.int 50002) (.var 1))) (.not (.cmp .lss (.var 1) (.int 1))))))))))) (.not (.cmp .lss (.fn 7 (.pr (.var 1) (.ar .add .i64 (.var 17) (.int 1)))) (.int 0))))
theorem fact16 (ρ : Env) : E.B ρ f16 = true := by
  unfold f16
  rw [sm_B_imp]
  simp only [sm_B_and]
  rintro ⟨p0, p1, p2, p3, p4, p5, p6, p7, p8⟩
  simp only [sm_I_int, sm_I_fn6, sm_I_fn7, sm_I_fn8, sm_B_bool, sm_B_eql, sm_B_lss, sm_B_not, sm_B_and, sm_B_imp, sm_B_iff, sm_I_add_i64, sm_I_sub_i64, sm_I_mul_i64, sm_I_rem, sm_I_wr, sm_I_mx, sm_I_mn] at *
  try generalize E.I ρ (.var 17) = a0 at *
  try generalize E.I ρ (.var 1) = a1 at *
  obtain ⟨a2, ea2, qa2⟩ := cs_i64 (a0 + (1))
  try simp only [ea2] at *
  omega
noncomputable def f17 : E := (.imp (.and (.cmp .eql (.var 19) (.fn 8 (.pr (.var 0) (.int 2)))) (.and (.cmp .eql (.var 18) (.var 0)) (.and (.not (.cmp .lss (.int 50001) (.var 0))) (.and (.not (.cmp .lss (.var 0) (.int 1))) (.and (.not (.cmp .lss (.int 50001) (.var 0))) (.and (.not (.cmp .lss (.var 0) (.int 1))) (.and (.not (.cmp .lss (.int 50001) (.var 0))) (.not (.cmp .lss (.var 0) (.int 1)))))))))) (.cmp .eql (.ar .quo .i64 (.ar .mul .i64 (.int 1000) (.var 19)) (.ar .add .i64 (.var 19) (.int 0))) (.int 1000)))
theorem fact17 (ρ : Env) : E.B ρ f17 = true := by
  unfold f17
  rw [sm_B_imp]
  simp only [sm_B_and]
  rintro ⟨p0, p1, p2, p3, p4, p5, p6, p7⟩
  simp only [sm_I_int, sm_I_fn6, sm_I_fn7, sm_I_fn8, sm_B_bool, sm_B_eql, sm_B_lss, sm_B_not, sm_B_and, sm_B_imp, sm_B_iff, sm_I_add_i64, sm_I_sub_i64, sm_I_mul_i64, sm_I_rem, sm_I_wr, sm_I_mx, sm_I_mn, sm_I_quo_i64] at *
  first
    | exact quo_a (by omega) (by omega)
    | exact quo_b (by omega) (by omega) (by omega) (by omega) (by omega) (by omega)
    | (exfalso; obtain ⟨y, ey, qy⟩ := cs_i64 (E.I ρ (.var 19) + E.I ρ (.var 21)); simp only [ey] at *; omega)
noncomputable def f18 : E := (.imp (.and (.cmp .eql (.var 19) (.fn 8 (.pr (.var 0) (.int 2)))) (.and (.cmp .eql (.var 18) (.var 0)) (.and (.not (.cmp .lss (.int 50001) (.var 0))) (.and (.not (.cmp .lss (.var 0) (.int 1))) (.and (.not (.cmp .lss (.int 50001) (.var 0))) (.and (.not (.cmp .lss (.var 0) (.int 1))) (.and (.not (.cmp .lss (.int 50001) (.var 0))) (.not (.cmp .lss (.var 0) (.int 1)))))))))) (.not (.cmp .eql (.ar .add .i64 (.var 19) (.int 0)) (.int 0))))
theorem fact18 (ρ : Env) : E.B ρ f18 = true := by
  unfold f18
  rw [sm_B_imp]
  simp only [sm_B_and]
  rintro ⟨p0, p1, p2, p3, p4, p5, p6, p7⟩
  simp only [sm_I_int, sm_I_fn6, sm_I_fn7, sm_I_fn8, sm_B_bool, sm_B_eql, sm_B_lss, sm_B_not, sm_B_and, sm_B_imp, sm_B_iff, sm_I_add_i64, sm_I_sub_i64, sm_I_mul_i64, sm_I_rem, sm_I_wr, sm_I_mx, sm_I_mn] at *
  try generalize E.I ρ (.var 19) = a0 at *
  try generalize E.I ρ (.var 0) = a1 at *
  try generalize E.I ρ (.var 18) = a2 at *
  obtain ⟨a3, ea3, qa3⟩ := cs_i64 (a0 + (0))
  try simp only [ea3] at *
  omega
noncomputable def f19 : E := (.imp (.and (.cmp .lss (.int 100000) (.fn 6 (.pr (.var 18) (.var 1)))) (.and (.not (.cmp .lss (.var 1) (.var 17))) (.and (.not (.cmp .lss (.var 17) (.int 0))) (.and (.cmp .eql (.var 19) (.fn 8 (.pr (.var 0) (.int 2)))) (.and (.cmp .eql (.var 18) (.var 0)) (.and (.not (.cmp .lss (.int 50002) (.var 1))) (.and (.not (.cmp .lss (.var 1) (.int 1))) (.and (.not (.cmp .lss (.int 50001) (.var 0))) (.and (.not (.cmp .lss (.var 0) (.int 1))) (.and (.not (.cmp .lss (.int 50002) (.var 1))) (.and (.not (.cmp .lss (.var 1) (.int 1))) (.and (.not (.cmp .lss (.int 50001) (.var 0))) (.and (.not (.cmp .lss (.var 0) (.int 1))) (.and (.not (.cmp .lss (.int 50002) (.var 1))) (.and (.not (.cmp .lss (.var 1) (.int 1))) (.and (.not (.cmp .lss (.int 50001) (.var 0))) (.not (.cmp .lss (.var 0) (.int 1))))))))))))))))))) (.cmp .lss (.int 100000) (.ar .add .i64 (.var 0) (.var 1))))
theorem fact19 (ρ : Env) : E.B ρ f19 = true := by
  unfold f19
  rw [sm_B_imp]
  simp only [sm_B_and]
  rintro ⟨p0, p1, p2, p3, p4, p5, p6, p7, p8, p9, p10, p11, p12, p13, p14, p15, p16⟩
  simp only [sm_I_int, sm_I_fn6, sm_I_fn7, sm_I_fn8, sm_B_bool, sm_B_eql, sm_B_lss, sm_B_not, sm_B_and, sm_B_imp, sm_B_iff, sm_I_add_i64, sm_I_sub_i64, sm_I_mul_i64, sm_I_rem, sm_I_wr, sm_I_mx, sm_I_mn] at *
  try generalize E.I ρ (.var 18) = a0 at *
  try generalize E.I ρ (.var 1) = a1 at *
  try generalize E.I ρ (.var 17) = a2 at *
  try generalize E.I ρ (.var 19) = a3 at *
  try generalize E.I ρ (.var 0) = a4 at *
  obtain ⟨a5, ea5, qa5⟩ := cs_i64 (a4 + a1)
  try simp only [ea5] at *
  omega
noncomputable def f20 : E := (.imp (.and (.fn 100 (.pr (.var 16) (.pr (.var 17) (.pr (.var 1) (.int 1))))) (.and (.not (.cmp .lss (.var 17) (.var 1))) (.and (.not (.cmp .lss (.int 100000) (.fn 6 (.pr (.var 18) (.var 1))))) (.and (.cmp .eql (.var 21) (.fn 8 (.pr (.var 1) (.int 2)))) (.and (.cmp .eql (.var 20) (.fn 6 (.pr (.var 18) (.var 1)))) (.and (.not (.cmp .lss (.var 1) (.var 17))) (.and (.not (.cmp .lss (.var 17) (.int 0))) (.and (.cmp .eql (.var 19) (.fn 8 (.pr (.var 0) (.int 2)))) (.and (.cmp .eql (.var 18) (.var 0)) (.and (.not (.cmp .lss (.int 50002) (.var 1))) (.and (.not (.cmp .lss (.var 1) (.int 1))) (.and (.not (.cmp .lss (.int 50001) (.var 0))) (.and (.not (.cmp .lss (.var 0) (.int 1))) (.and (.not (.cmp .lss (.int 50002) (.var 1))) (.and (.not (.cmp .lss (.var 1) (.int 1))) (.and (.not (.cmp .lss (.int 50001) (.var 0))) (.and (.not (.cmp .lss (.var 0) (.int 1))) (.and (.not (.cmp .lss (.int 50002) (.var 1))) (.and (.not (.cmp .lss (.var 1) (.int 1))) (.and (.not (.cmp .lss (.int 50001) (.var 0))) (.not (.cmp .lss (.var 0) (.int 1))))))))))))))))))))))) (.not (.cmp .lss (.int 100000) (.ar .add .i64 (.var 0) (.var 1)))))
theorem fact20 (ρ : Env) : E.B ρ f20 = true := by
  unfold f20
  rw [sm_B_imp]
  simp only [sm_B_and]
  rintro ⟨p0, p1, p2, p3, p4, p5, p6, p7, p8, p9, p10, p11, p12, p13, p14, p15, p16, p17, p18, p19, p20⟩
  clear p0
  simp only [sm_I_int, sm_I_fn6, sm_I_fn7, sm_I_fn8, sm_B_bool, sm_B_eql, sm_B_lss, sm_B_not, sm_B_and, sm_B_imp, sm_B_iff, sm_I_add_i64, sm_I_sub_i64, sm_I_mul_i64, sm_I_rem, sm_I_wr, sm_I_mx, sm_I_mn] at *
  try generalize E.I ρ (.var 17) = a0 at *
  try generalize E.I ρ (.var 1) = a1 at *
  try generalize E.I ρ (.var 18) = a2 at *
  try generalize E.I ρ (.var 21) = a3 at *
  try generalize E.I ρ (.var 20) = a4 at *
  try generalize E.I ρ (.var 19) = a5 at *
  try generalize E.I ρ (.var 0) = a6 at *
  obtain ⟨a7, ea7, qa7⟩ := cs_i64 (a6 + a1)
  try simp only [ea7] at *
  omega
noncomputable def f21 : E := (.imp (.and (.not (.cmp .lss (.var 1) (.var 17))) (.and (.not (.cmp .lss (.var 17) (.int 0))) (.and (.cmp .eql (.var 19) (.fn 8 (.pr (.var 0) (.int 2)))) (.and (.cmp .eql (.var 18) (.var 0)) (.and (.not (.cmp .lss (.int 50002) (.var 1))) (.and (.not (.cmp .lss (.var 1) (.int 1))) (.and (.not (.cmp .lss (.int 50001) (.var 0))) (.and (.not (.cmp .lss (.var 0) (.int 1))) (.and (.not (.cmp .lss (.int 50002) (.var 1))) (.and (.not (.cmp .lss (.var 1) (.int 1))) (.and (.not (.cmp .lss (.int 50001) (.var 0))) (.and (.not (.cmp .lss (.var 0) (.int 1))) (.and (.not (.cmp .lss (.int 50002) (.var 1))) (.and (.not (.cmp .lss (.var 1) (.int 1))) (.and (.not (.cmp .lss (.int 50001) (.var 0))) (.not (.cmp .lss (.var 0) (.int 1)))))))))))))))))) (.not (.cmp .eql (.ar .add .i64 (.var 0) (.var 1)) (.int 0))))
theorem fact21 (ρ : Env) : E.B ρ f21 = true := by
  unfold f21
  rw [sm_B_imp]
  simp only [sm_B_and]
  rintro ⟨p0, p1, p2, p3, p4, p5, p6, p7, p8, p9, p10, p11, p12, p13, p14, p15⟩
  simp only [sm_I_int, sm_I_fn6, sm_I_fn7, sm_I_fn8, sm_B_bool, sm_B_eql, sm_B_lss, sm_B_not, sm_B_and, sm_B_imp, sm_B_iff, sm_I_add_i64, sm_I_sub_i64, sm_I_mul_i64, sm_I_rem, sm_I_wr, sm_I_mx, sm_I_mn] at *
  try generalize E.I ρ (.var 1) = a0 at *
  try generalize E.I ρ (.var 17) = a1 at *
  try generalize E.I ρ (.var 19) = a2 at *
  try generalize E.I ρ (.var 0) = a3 at *
  try generalize E.I ρ (.var 18) = a4 at *
  obtain ⟨a5, ea5, qa5⟩ := cs_i64 (a3 + a0)
  try simp only [ea5] at *
  omega
noncomputable def f22 : E := (.imp (.and (.fn 100 (.pr (.var 16) (.pr (.var 17) (.pr (.var 1) (.int 1))))) (.and (.not (.cmp .lss (.var 17) (.var 1))) (.and (.not (.cmp .lss (.int 100000) (.fn 6 (.pr (.var 18) (.var 1))))) (.and (.cmp .eql (.var 21) (.fn 8 (.pr (.var 1) (.int 2)))) (.and (.cmp .eql (.var 20) (.fn 6 (.pr (.var 18) (.var 1)))) (.and (.not (.cmp .lss (.int 100000) (.ar .add .i64 (.var 0) (.var 1)))) (.and (.not (.cmp .lss (.var 1) (.var 17))) (.and (.not (.cmp .lss (.var 17) (.int 0))) (.and (.cmp .eql (.var 19) (.fn 8 (.pr (.var 0) (.int 2)))) (.and (.cmp .eql (.var 18) (.var 0)) (.and (.not (.cmp .lss (.int 50002) (.var 1))) (.and (.not (.cmp .lss (.var 1) (.int 1))) (.and (.not (.cmp .lss (.int 50001) (.var 0))) (.and (.not (.cmp .lss (.var 0) (.int 1))) (.and (.not (.cmp .lss (.int 50002) (.var 1))) (.and (.not (.cmp .lss (.var 1) (.int 1))) (.and (.not (.cmp .lss (.int 50001) (.var 0))) (.and (.not (.cmp .lss (.var 0) (.int 1))) (.and (.not (.cmp .lss (.int 50002) (.var 1))) (.and (.not (.cmp .lss (.var 1) (.int 1))) (.and (.not (.cmp .lss (.int 50001) (.var 0))) (.not (.cmp .lss (.var 0) (.int 1)))))))))))))))))))))))) (.cmp .eql (.var 20) (.ar .add .i64 (.var 0) (.var 1))))
theorem fact22 (ρ : Env) : E.B ρ f22 = true := by
  unfold f22
  rw [sm_B_imp]
  simp only [sm_B_and]
  rintro ⟨p0, p1, p2, p3, p4, p5, p6, p7, p8, p9, p10, p11, p12, p13, p14, p15, p16, p17, p18, p19, p20, p21⟩
  clear p0
  simp only [sm_I_int, sm_I_fn6, sm_I_fn7, sm_I_fn8, sm_B_bool, sm_B_eql, sm_B_lss, sm_B_not, sm_B_and, sm_B_imp, sm_B_iff, sm_I_add_i64, sm_I_sub_i64, sm_I_mul_i64, sm_I_rem, sm_I_wr, sm_I_mx, sm_I_mn] at *
  try generalize E.I ρ (.var 17) = a0 at *
  try generalize E.I ρ (.var 1) = a1 at *
  try generalize E.I ρ (.var 18) = a2 at *
  try generalize E.I ρ (.var 21) = a3 at *
  try generalize E.I ρ (.var 20) = a4 at *
  try generalize E.I ρ (.var 0) = a5 at *
  try generalize E.I ρ (.var 19) = a6 at *
  obtain ⟨a7, ea7, qa7⟩ := cs_i64 (a5 + a1)
  try simp only [ea7] at *
  omega
noncomputable def f23 : E := (.imp (.and (.cmp .eql (.var 21) (.fn 8 (.pr (.var 1) (.int 2)))) (.and (.not (.cmp .lss (.var 1) (.var 17))) (.and (.not (.cmp .lss (.var 17) (.int 0))) (.and (.cmp .eql (.var 19) (.fn 8 (.pr (.var 0) (.int 2)))) (.and (.cmp .eql (.var 18) (.var 0)) (.and (.not (.cmp .lss (.int 50002) (.var 1))) (.and (.not (.cmp .lss (.var 1) (.int 1))) (.and (.not (.cmp .lss (.int 50001) (.var 0))) (.and (.not (.cmp .lss (.var 0) (.int 1))) (.and (.not (.cmp .lss (.int 50002) (.var 1))) (.and (.not (.cmp .lss (.var 1) (.int 1))) (.and (.not (.cmp .lss (.int 50001) (.var 0))) (.and (.not (.cmp .lss (.var 0) (.int 1))) (.and (.not (.cmp .lss (.int 50002) (.var 1))) (.and (.not (.cmp .lss (.var 1) (.int 1))) (.and (.not (.cmp .lss (.int 50001) (.var 0))) (.not (.cmp .lss (.var 0) (.int 1))))))))))))))))))) (.cmp .eql (.ar .quo .i64 (.ar .mul .i64 (.int 1000) (.var 19)) (.ar .add .i64 (.var 19) (.var 21))) (.ar .quo .i64 (.ar .mul .i64 (.int 1000) (.var 0)) (.ar .add .i64 (.var 0) (.var 1)))))
theorem fact23 (ρ : Env) : E.B ρ f23 = true := by
  unfold f23
  rw [sm_B_imp]
  simp only [sm_B_and]
  rintro ⟨p0, p1, p2, p3, p4, p5, p6, p7, p8, p9, p10, p11, p12, p13, p14, p15, p16⟩
  simp only [sm_I_int, sm_I_fn6, sm_I_fn7, sm_I_fn8, sm_B_bool, sm_B_eql, sm_B_lss, sm_B_not, sm_B_and, sm_B_imp, sm_B_iff, sm_I_add_i64, sm_I_sub_i64, sm_I_mul_i64, sm_I_rem, sm_I_wr, sm_I_mx, sm_I_mn, sm_I_quo_i64] at *
  first
    | exact quo_a (by omega) (by omega)
    | exact quo_b (by omega) (by omega) (by omega) (by omega) (by omega) (by omega)
    | (exfalso; obtain ⟨y, ey, qy⟩ := cs_i64 (E.I ρ (.var 19) + E.I ρ (.var 21)); simp only [ey] at *; omega)
noncomputable def f24 : E := (.imp (.and (.cmp .eql (.var 21) (.fn 8 (.pr (.var 1) (.int 2)))) (.and (.cmp .eql (.ar .add .i64 (.var 19) (.var 21)) (.int 0)) (.and (.not (.cmp .lss (.var 1) (.var 17))) (.and (.not (.cmp .lss (.var 17) (.int 0))) (.and (.cmp .eql (.var 19) (.fn 8 (.pr (.var 0) (.int 2)))) (.and (.cmp .eql (.var 18) (.var 0)) (.and (.not (.cmp .lss (.int 50002) (.var 1))) (.and (.not (.cmp .lss (.var 1) (.int 1))) (.and (.not (.cmp .lss (.int 50001) (.var 0))) (.and (.not (.cmp .lss (.var 0) (.int 1))) (.and (.not (.cmp .lss (.int 50002) (.var 1))) (.and (.not (.cmp .lss (.var 1) (.int 1))) (.and (.not (.cmp .lss (.int 50001) (.var 0))) (.and (.not (.cmp .lss (.var 0) (.int 1))) (.and (.not (.cmp .lss (.int 50002) (.var 1))) (.and (.not (.cmp .lss (.var 1) (.int 1))) (.and (.not (.cmp .lss (.int 50001) (.var 0))) (.not (.cmp .lss (.var 0) (.int 1)))))))))))))))))))) (.cmp .eql (.ar .quo .i64 (.ar .mul .i64 (.int 1000) (.var 0)) (.ar .add .i64 (.var 0) (.var 1))) (.int 500)))
theorem fact24 (ρ : Env) : E.B ρ f24 = true := by
  unfold f24
  rw [sm_B_imp]
  simp only [sm_B_and]
  rintro ⟨p0, p1, p2, p3, p4, p5, p6, p7, p8, p9, p10, p11, p12, p13, p14, p15, p16, p17⟩
  simp only [sm_I_int, sm_I_fn6, sm_I_fn7, sm_I_fn8, sm_B_bool, sm_B_eql, sm_B_lss, sm_B_not, sm_B_and, sm_B_imp, sm_B_iff, sm_I_add_i64, sm_I_sub_i64, sm_I_mul_i64, sm_I_rem, sm_I_wr, sm_I_mx, sm_I_mn, sm_I_quo_i64] at *
  first
    | exact quo_a (by omega) (by omega)
    | exact quo_b (by omega) (by omega) (by omega) (by omega) (by omega) (by omega)
    | (exfalso; obtain ⟨y, ey, qy⟩ := cs_i64 (E.I ρ (.var 19) + E.I ρ (.var 21)); simp only [ey] at *; omega)
noncomputable def f25 : E := (.imp (.and (.fn 100 (.pr (.var 16) (.pr (.var 17) (.pr (.var 1) (.int 1))))) (.and (.not (.cmp .lss (.var 17) (.var 1))) (.and (.not (.cmp .lss (.int 100000) (.fn 6 (.pr (.var 18) (.var 1))))) (.and (.cmp .eql (.var 21) (.fn 8 (.pr (.var 1) (.int 2)))) (.and (.cmp .eql (.var 20) (.fn 6 (.pr (.var 18) (.var 1)))) (.and (.not (.cmp .lss (.var 1) (.var 17))) (.and (.not (.cmp .lss (.var 17) (.int 0))) (.and (.cmp .eql (.var 19) (.fn 8 (.pr (.var 0) (.int 2)))) (.and (.cmp .eql (.var 18) (.var 0)) (.and (.not (.cmp .lss (.int 50002) (.var 1))) (.and (.not (.cmp .lss (.var 1) (.int 1))) (.and (.not (.cmp .lss (.int 50001) (.var 0))) (.and (.not (.cmp .lss (.var 0) (.int 1))) (.and (.not (.cmp .lss (.int 50002) (.var 1))) (.and (.not (.cmp .lss (.var 1) (.int 1))) (.and (.not (.cmp .lss (.int 50001) (.var 0))) (.and (.not (.cmp .lss (.var 0) (.int 1))) (.and (.not (.cmp .lss (.int 50002) (.var 1))) (.and (.not (.cmp .lss (.var 1) (.int 1))) (.and (.not (.cmp .lss (.int 50001) (.var 0))) (.not (.cmp .lss (.var 0) (.int 1))))))))))))))))))))))) (.cmp .eql (.var 20) (.ar .add .i64 (.var 0) (.var 1))))
theorem fact25 (ρ : Env) : E.B ρ f25 = true := by
  unfold f25
  rw [sm_B_imp]
  simp only [sm_B_and]
  rintro ⟨p0, p1, p2, p3, p4, p5, p6, p7, p8, p9, p10, p11, p12, p13, p14, p15, p16, p17, p18, p19, p20⟩
  clear p0
  simp only [sm_I_int, sm_I_fn6, sm_I_fn7, sm_I_fn8, sm_B_bool, sm_B_eql, sm_B_lss, sm_B_not, sm_B_and, sm_B_imp, sm_B_iff, sm_I_add_i64, sm_I_sub_i64, sm_I_mul_i64, sm_I_rem, sm_I_wr, sm_I_mx, sm_I_mn] at *
  try generalize E.I ρ (.var 17) = a0 at *
  try generalize E.I ρ (.var 1) = a1 at *
  try generalize E.I ρ (.var 18) = a2 at *
  try generalize E.I ρ (.var 21) = a3 at *
  try generalize E.I ρ (.var 20) = a4 at *
  try generalize E.I ρ (.var 19) = a5 at *
  try generalize E.I ρ (.var 0) = a6 at *
  obtain ⟨a7, ea7, qa7⟩ := cs_i64 (a6 + a1)
  try simp only [ea7] at *
  omega
noncomputable def facts : List E := [f0, f1, f2, f3, f4, f5, f6, f7, f8, f9, f10, f11, f12, f13, f14, f15, f16, f17, f18, f19, f20, f21, f22, f23, f24, f25]
theorem facts_ok : ∀ e ∈ facts, ∀ ρ : Env, E.B ρ e = true := (all_cons fact0 (all_cons fact1 (all_cons fact2 (all_cons fact3 (all_cons fact4 (all_cons fact5 (all_cons fact6 (all_cons fact7 (all_cons fact8 (all_cons fact9 (all_cons fact10 (all_cons fact11 (all_cons fact12 (all_cons fact13 (all_cons fact14 (all_cons fact15 (all_cons fact16 (all_cons fact17 (all_cons fact18 (all_cons fact19 (all_cons fact20 (all_cons fact21 (all_cons fact22 (all_cons fact23 (all_cons fact24 (all_cons fact25 all_nil))))))))))))))))))))))))))
end m
set_option maxRecDepth 100000 in
theorem reckoned : withTab Try.prog (fun tb => checkAll outTrue (run Try.prog (tb.plus m.facts anns natl3) 3000 (.call 5 args) .nil (varSt 2 pc0) SX.one)) = true := by kernel_rfl

set_option maxRecDepth 100000 in
theorem walk {H : Type} (W : World) (base : Nat) (enc : TypeId × Value → H) (v0 : Value) (d0 : DataW H) (p0 : List MemPlace) (v1 : Value) (d1 : DataW H) (p1 : List MemPlace)
    (o0 : Value.okWide Try.prog W .any base 3 v0) (h0 : DataW.Trod enc Try.prog W 0 (fun _ => true) true 3 v0 d0 p0)
    (o1 : Value.okWide Try.prog W .any base 3 v1) (h1 : DataW.Trod enc Try.prog W 0 (fun _ => true) true 3 v1 d1 p1) :
    Calls Try.prog 5 #[v0, v1] W fun e W' => e = .returned (.bool true) ∧ Below W.heap.size W W' := by
  obtain ⟨x0, rfl, _, _, w0⟩ := open_int Try.underlying3 o0 h0
  have r0 := wf_i64 w0
  obtain ⟨x1, rfl, _, _, w1⟩ := open_int Try.underlying3 o1 h1
  have r1 := wf_i64 w1

  refine true_of_check2 good (facts := m.facts) m.facts_ok (anns := anns) (plainAnns_ok _ (by kernel_rfl)) natl3_ok (vs := [.int x0, .int x1]) (pc := pc0) reckoned ?_ W ⟨trivial, ⟨trivial, trivial⟩⟩
  unfold pc0
  try simp only [u64R, i64R, List.cons_append, List.nil_append]
  repeat' (refine pc_cons ?_ ?_)
  all_goals first
    | exact pc_nil
    | (first | fail | skip; done)
    | (simp only [eLe, eLt, eV, Env.of, sm_I_int, sm_I_var, sm_B_lss, sm_B_not, getD_cons_zero, getD_cons_succ, toI_int]; omega)

set_option maxRecDepth 100000 in
theorem lifted (os : Os) (started : os.Started) (H : Type) (enc : TypeId × Value → H) :
    ReturnsInHanded {} Try.checked os 5 .any (Rows.metaFullsSpec.pre6 enc Try.prog Try.f5 Rows.metaFullsRow.domain false) (Rows.metaFullsSpec.post enc Try.prog Try.f5 false true false false) := by
  refine returnsInHanded_of_change (C := Try.checked) own started (by kernel_rfl) Try.func5
    (ChangeSpec.witness6 (enc := enc) (C := Try.checked) false ⟨#[], #[.int .i64 0, .int .i64 0], []⟩ 8 (by kernel_rfl) (by kernel_rfl) (by kernel_rfl) (by kernel_rfl)) ?_
  intro W base args ds gs before hval0 hW hcnd _
  have hval : ∀ (j : Nat) t v, Try.f5.params[j]? = some t → args[j]? = some v → Value.okWide Try.prog W .any base t v := hval0
  have hW' := hW
  obtain ⟨p, q, hA0, hV, rfl, hfz, hnd⟩ := hW
  have hA : DataW.TrodAll enc Try.prog W 0 (fun _ => true) true Try.f5.params.toList args.toList ds p := hA0
  rw [Try.params5] at hA hval
  obtain ⟨v0, vs0, d0, ds0, p0, q0, hargs, rfl, rfl, h0, r0⟩ := trodAll_cons hA
  obtain ⟨v1, vs1, d1, ds1, p1, q1, rfl, rfl, rfl, h1, r1⟩ := trodAll_cons r0
  obtain ⟨rfl, rfl, rfl⟩ := trodAll_nil r1
  obtain rfl : args = #[v0, v1] := by cases args; simp_all
  obtain ⟨rfl, rfl⟩ := trodVars_none hV
  have lt0 : ∀ x ∈ p0, x.block < W.heap.size := by obtain ⟨m, hm⟩ := h0; exact DataW.trod_lt m _ _ _ hm
  have lt1 : ∀ x ∈ p1, x.block < W.heap.size := by obtain ⟨m, hm⟩ := h1; exact DataW.trod_lt m _ _ _ hm
  have o0 := hval 0 3 v0 rfl rfl
  have o1 := hval 1 3 v1 rfl rfl
  clear hA0 hval0
  refine (walk W base enc v0 d0 p0 v1 d1 p1 o0 h0 o1 h1).mono fun e W' ⟨he, bel⟩ => ?_
  subst he
  exact ⟨_, rfl, _, _, _, [], _, [], hW', trodAll_mk1 (shut_bool Try.underlying4 _), (trodAll_cons_mk (Below.trod laidOut (by kernel_rfl) (of_decide_eq_true (by kernel_rfl)) h0 bel lt0) (trodAll_cons_mk (Below.trod laidOut (by kernel_rfl) (of_decide_eq_true (by kernel_rfl)) h1 bel lt1) trodAll_mk0)), rfl, bel.frame _, fun h => by cases h⟩

theorem over : Rows.metaFullsRow.holds Try.pinned (OpenSpec.ofChange Rows.metaFullsSpec) :=
  OpenClaim.holds_of_wide 5 Try.f5 rfl rfl rfl rfl rfl rfl rfl ⟨rfl, rfl, rfl, rfl, rfl⟩ rfl rfl rfl rfl rfl (by kernel_rfl) Try.func5 (by kernel_rfl)
    (of_decide_eq_true (by kernel_rfl)) (by unfold Func.isWrapper; first | (rw [if_pos (by decide +kernel)]; kernel_rfl) | (rw [if_neg (by decide +kernel)]; exact ⟨rfl, rfl⟩))
    (fun os started H enc _ => lifted os started H enc)

theorem proved : Rows.MetaFullsSaid := over

end Go.Proofs.Ytmngplmblanhdaa.metaFulls
