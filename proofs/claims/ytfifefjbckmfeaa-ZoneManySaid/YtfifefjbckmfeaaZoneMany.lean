/-
  ZoneMany: one reckoning by the kernel, with what is known at the loops' heads, contracts of functions, and facts of arithmetic.
-/
import Derived.Test.YtfifefjbckmfeaaRows
import Derived.Test.YtfifefjbckmfeaaNat
import Derived.WalkKit
import Derived.ProofKit
import Derived.OpenShut
import Derived.ChangeOld
import Derived.Below
import Derived.KernelRfl
import Derived.Lib.SmallJoins
import Derived.Test.YtfifefjbckmfeaaTheory
import Derived.Test.YtfifefjbckmfeaaZoneManyParta
namespace Go.Proofs.Ytfifefjbckmfeaa.zoneMany
open Go.ChangeShapes Go.WideShapes Go.ChangeAt Go.RowKit
open Go.SX
set_option linter.unusedVariables false
set_option linter.unusedSimpArgs false
set_option maxRecDepth 100000
namespace m
noncomputable def f0 : E := (.imp (.and (.cmp .eql (.var 24) (.fn 7 (.pr (.var 26) (.int 1)))) (.not (.cmp .lss (.var 26) (.int 1)))) (.not (.cmp .lss (.var 24) (.int 0))))
theorem fact0 (ρ : Env) : E.B ρ f0 = true := by
  unfold f0
  rw [sm_B_imp]
  simp only [sm_B_and]
  rintro ⟨p0, p1⟩
  try simp only [smA, smW] at *
  try generalize E.I ρ (.var 24) = a0 at *
  try generalize E.I ρ (.var 26) = a1 at *
  omega
noncomputable def f1 : E := (.imp (.and (.cmp .eql (.var 31) (.fn 7 (.pr (.var 26) (.int 1)))) (.and (.not (.cmp .lss (.int 200) (.var 26))) (.not (.cmp .lss (.var 26) (.int 1))))) (.not (.cmp .lss (.var 31) (.fn 6 (.pr (.var 31) (.fn 7 (.pr (.var 26) (.ar .add .i64 (.var 31) (.int 1)))))))))
theorem fact1 (ρ : Env) : E.B ρ f1 = true := by
  unfold f1
  rw [sm_B_imp]
  simp only [sm_B_and]
  rintro ⟨p0, p1, p2⟩
  try simp only [smA, smW] at *
  try generalize E.I ρ (.var 31) = a0 at *
  try generalize E.I ρ (.var 26) = a1 at *
  obtain ⟨a2, ea2, qa2⟩ := cs_i64 (a0 + (1))
  try simp only [ea2] at *
  omega
noncomputable def f2 : E := (.imp (.and (.cmp .eql (.var 36) (.fn 7 (.pr (.var 31) (.int 1)))) (.and (.not (.cmp .lss (.int 200) (.var 26))) (.and (.not (.cmp .lss (.var 26) (.var 31))) (.not (.cmp .lss (.var 31) (.int 0)))))) (.not (.cmp .lss (.var 36) (.fn 6 (.pr (.var 36) (.fn 7 (.pr (.var 31) (.ar .add .i64 (.var 36) (.int 1)))))))))
theorem fact2 (ρ : Env) : E.B ρ f2 = true := by
  unfold f2
  rw [sm_B_imp]
  simp only [sm_B_and]
  rintro ⟨p0, p1, p2, p3⟩
  try simp only [smA, smW] at *
  try generalize E.I ρ (.var 36) = a0 at *
  try generalize E.I ρ (.var 31) = a1 at *
  try generalize E.I ρ (.var 26) = a2 at *
  obtain ⟨a3, ea3, qa3⟩ := cs_i64 (a0 + (1))
  try simp only [ea3] at *
  omega
noncomputable def f3 : E := (.imp (.cmp .eql (.var 26) (.int 0)) (.not (.cmp .lss (.var 26) (.fn 6 (.pr (.var 26) (.fn 7 (.pr (.int 1) (.ar .add .i64 (.var 26) (.int 1)))))))))
theorem fact3 (ρ : Env) : E.B ρ f3 = true := by
  unfold f3
  rw [sm_B_imp]
  intro p0
  try simp only [smA, smW] at *
  try generalize E.I ρ (.var 26) = a0 at *
  obtain ⟨a1, ea1, qa1⟩ := cs_i64 (a0 + (1))
  try simp only [ea1] at *
  omega
noncomputable def f4 : E := (.imp (.and (.fn 104 (.pr (.var 30) (.pr (.var 28) (.var 26)))) (.and (.cmp .eql (.var 26) (.fn 0 (.var 28))) (.and (.cmp .eql (.var 24) (.fn 7 (.pr (.var 26) (.int 1)))) (.not (.cmp .lss (.var 26) (.int 1)))))) (.cmp .eql (.fn 32 (.pr (.var 30) (.pr (.fn 1 (.pr (.var 28) (.var 24))) (.int 0)))) (.int 0)))
theorem fact4 (ρ : Env) : E.B ρ f4 = true := by
  unfold f4
  rw [sm_B_imp]
  simp only [sm_B_and]
  rintro ⟨p0, p1, p2, p3⟩
  have g0 := t32 p0 (i := (.var 24))
  clear p0
  try simp only [smA, smW] at *
  try generalize E.I ρ (.var 26) = a0 at *
  have na1 := fn0_nn (ρ := ρ) (.var 28)
  try generalize E.I ρ (.fn 0 (.var 28)) = a1 at *
  try generalize E.I ρ (.var 24) = a2 at *
  try generalize E.I ρ (.fn 32 (.pr (.var 30) (.pr (.fn 1 (.pr (.var 28) (.var 24))) (.int 0)))) = a3 at *
  omega
noncomputable def f5 : E := (.imp (.and (.fn 104 (.pr (.var 30) (.pr (.var 28) (.fn 6 (.pr (.var 24) (.int 1)))))) (.and (.cmp .eql (.var 26) (.fn 0 (.var 28))) (.and (.cmp .lss (.fn 6 (.pr (.var 24) (.int 1))) (.var 26)) (.not (.cmp .lss (.var 24) (.int 0)))))) (.cmp .eql (.fn 32 (.pr (.var 30) (.pr (.fn 1 (.pr (.var 28) (.var 24))) (.int 0)))) (.int 0)))
theorem fact5 (ρ : Env) : E.B ρ f5 = true := by
  unfold f5
  rw [sm_B_imp]
  simp only [sm_B_and]
  rintro ⟨p0, p1, p2, p3⟩
  have g0 := t32 p0 (i := (.var 24))
  clear p0
  try simp only [smA, smW] at *
  try generalize E.I ρ (.var 26) = a0 at *
  have na1 := fn0_nn (ρ := ρ) (.var 28)
  try generalize E.I ρ (.fn 0 (.var 28)) = a1 at *
  try generalize E.I ρ (.var 24) = a2 at *
  try generalize E.I ρ (.fn 32 (.pr (.var 30) (.pr (.fn 1 (.pr (.var 28) (.var 24))) (.int 0)))) = a3 at *
  omega
noncomputable def f6 : E := (.imp (.and (.cmp .eql (.ar .rem .i64 (.int 1) (.var 1)) (.int 0)) (.and (.not (.cmp .lss (.int 9) (.var 1))) (.not (.cmp .lss (.var 1) (.int 1))))) (.cmp .eql (.var 1) (.int 1)))
theorem fact6 (ρ : Env) : E.B ρ f6 = true := by
  unfold f6
  rw [sm_B_imp]
  simp only [sm_B_and]
  rintro ⟨p0, p1, p2⟩
  simp only [smA, smW] at *
  have hr := rem_one (x := E.I ρ (.var 1)) (by omega) (by omega)
  first | (have := hr (by assumption); omega) | omega
noncomputable def f7 : E := (.imp (.and (.not (.cmp .lss (.var 0) (.int 1))) (.and (.not (.cmp .eql (.ar .rem .i64 (.int 1) (.var 1)) (.int 0))) (.and (.not (.cmp .lss (.var 2) (.int 0))) (.and (.not (.cmp .lss (.var 2) (.int 1))) (.and (.not (.cmp .lss (.var 3) (.int 0))) (.and (.not (.cmp .lss (.var 3) (.int 1))) (.and (.not (.cmp .lss (.int 9) (.var 1))) (.and (.not (.cmp .lss (.var 1) (.int 1))) (.and (.not (.cmp .lss (.int 200) (.var 0))) (.not (.cmp .lss (.var 0) (.int 0)))))))))))) (.fn 100 (.pr (.fn 23 (.pr (.int 1) (.fn 10 (.int 0)))) (.pr (.int 1) (.var 1)))))
theorem fact7 (ρ : Env) : E.B ρ f7 = true := by
  unfold f7
  rw [sm_B_imp]
  simp only [sm_B_and]
  rintro ⟨p0, p1, p2, p3, p4, p5, p6, p7, p8, p9⟩
  first
    | exact t100_one (by simp only [ints_app, ints_cons, ints_nil, ints_sub0, List.nil_append, List.append_nil, List.cons_append, sm_I_int]) (by first | omega | (simp only [smA, ints_len] at *; first | done | omega))
    | exact t100_two (by simp only [ints_app, ints_cons, ints_nil, ints_sub0, List.nil_append, List.append_nil, List.cons_append, sm_I_int]) (by first | omega | (simp only [smA, ints_len] at *; first | done | omega)) (by rw [sm_B_not, sm_B_eql, sm_I_rem, sm_I_int, sm_I_int] at p1; exact p1)
    | exact t100_two' (by simp only [ints_app, ints_cons, ints_nil, ints_sub0, List.nil_append, List.append_nil, List.cons_append, sm_I_int]) (by first | omega | (simp only [smA, ints_len] at *; first | done | omega)) (by rw [sm_B_not, sm_B_eql, sm_I_rem, sm_I_int, sm_I_int] at p1; exact p1)
    | (exfalso; rw [sm_B_eql, sm_I_int] at *; simp_all)
noncomputable def f8 : E := (.imp (.and (.cmp .lss (.var 0) (.int 1)) (.and (.not (.cmp .lss (.int 200) (.var 0))) (.not (.cmp .lss (.var 0) (.int 0))))) (.cmp .lss (.ar .sub .i64 (.var 0) (.int 1)) (.int 0)))
theorem fact8 (ρ : Env) : E.B ρ f8 = true := by
  unfold f8
  rw [sm_B_imp]
  simp only [sm_B_and]
  rintro ⟨p0, p1, p2⟩
  try simp only [smA, smW] at *
  try generalize E.I ρ (.var 0) = a0 at *
  obtain ⟨a1, ea1, qa1⟩ := cs_i64 (a0 - (1))
  try simp only [ea1] at *
  omega
noncomputable def f9 : E := (.imp (.and (.cmp .eql (.var 1) (.int 1)) (.and (.not (.cmp .lss (.var 0) (.int 1))) (.and (.not (.cmp .lss (.var 8) (.int 1))) (.and (.not (.cmp .lss (.var 0) (.int 2))) (.and (.cmp .eql (.ar .rem .i64 (.int 2) (.var 1)) (.int 0)) (.and (.not (.cmp .lss (.var 9) (.int 0))) (.and (.not (.cmp .lss (.var 9) (.int 2))) (.and (.not (.cmp .lss (.var 10) (.int 0))) (.and (.not (.cmp .lss (.var 11) (.int 0))) (.and (.not (.cmp .lss (.var 11) (.int 2))) (.and (.not (.cmp .lss (.int 9) (.var 1))) (.and (.not (.cmp .lss (.var 1) (.int 1))) (.and (.not (.cmp .lss (.int 200) (.var 0))) (.and (.not (.cmp .lss (.var 0) (.int 0))) (.not (.cmp .lss (.var 10) (.int 1))))))))))))))))) (.fn 100 (.pr (.fn 23 (.pr (.int 2) (.fn 23 (.pr (.int 1) (.fn 10 (.int 0)))))) (.pr (.int 2) (.var 1)))))
theorem fact9 (ρ : Env) : E.B ρ f9 = true := by
  unfold f9
  rw [sm_B_imp]
  simp only [sm_B_and]
  rintro ⟨p0, p1, p2, p3, p4, p5, p6, p7, p8, p9, p10, p11, p12, p13, p14⟩
  first
    | exact t100_one (by simp only [ints_app, ints_cons, ints_nil, ints_sub0, List.nil_append, List.append_nil, List.cons_append, sm_I_int]) (by first | omega | (simp only [smA, ints_len] at *; first | done | omega))
    | exact t100_two (by simp only [ints_app, ints_cons, ints_nil, ints_sub0, List.nil_append, List.append_nil, List.cons_append, sm_I_int]) (by first | omega | (simp only [smA, ints_len] at *; first | done | omega)) (by rw [sm_B_eql, sm_I_rem, sm_I_int, sm_I_int] at p4; exact p4)
    | exact t100_two' (by simp only [ints_app, ints_cons, ints_nil, ints_sub0, List.nil_append, List.append_nil, List.cons_append, sm_I_int]) (by first | omega | (simp only [smA, ints_len] at *; first | done | omega)) (by rw [sm_B_eql, sm_I_rem, sm_I_int, sm_I_int] at p4; exact p4)
    | (exfalso; rw [sm_B_eql, sm_I_int] at *; simp_all)
noncomputable def f10 : E := (.imp (.and (.cmp .eql (.var 1) (.int 1)) (.and (.not (.cmp .lss (.var 0) (.int 1))) (.and (.not (.cmp .lss (.var 8) (.int 1))) (.and (.not (.cmp .lss (.var 0) (.int 2))) (.and (.not (.cmp .eql (.ar .rem .i64 (.int 2) (.var 1)) (.int 0))) (.and (.not (.cmp .lss (.var 9) (.int 0))) (.and (.not (.cmp .lss (.var 9) (.int 2))) (.and (.not (.cmp .eql (.var 8) (.int 1))) (.and (.not (.cmp .lss (.var 10) (.int 0))) (.and (.not (.cmp .lss (.var 10) (.int 2))) (.and (.not (.cmp .lss (.int 9) (.var 1))) (.and (.not (.cmp .lss (.var 1) (.int 1))) (.and (.not (.cmp .lss (.int 200) (.var 0))) (.not (.cmp .lss (.var 0) (.int 0)))))))))))))))) (.fn 100 (.pr (.fn 23 (.pr (.int 1) (.fn 23 (.pr (.int 2) (.fn 10 (.int 0)))))) (.pr (.int 2) (.var 1)))))
theorem fact10 (ρ : Env) : E.B ρ f10 = true := by
  unfold f10
  rw [sm_B_imp]
  simp only [sm_B_and]
  rintro ⟨p0, p1, p2, p3, p4, p5, p6, p7, p8, p9, p10, p11, p12, p13⟩
  first
    | exact t100_one (by simp only [ints_app, ints_cons, ints_nil, ints_sub0, List.nil_append, List.append_nil, List.cons_append, sm_I_int]) (by first | omega | (simp only [smA, ints_len] at *; first | done | omega))
    | exact t100_two (by simp only [ints_app, ints_cons, ints_nil, ints_sub0, List.nil_append, List.append_nil, List.cons_append, sm_I_int]) (by first | omega | (simp only [smA, ints_len] at *; first | done | omega)) (by rw [sm_B_not, sm_B_eql, sm_I_rem, sm_I_int, sm_I_int] at p4; exact p4)
    | exact t100_two' (by simp only [ints_app, ints_cons, ints_nil, ints_sub0, List.nil_append, List.append_nil, List.cons_append, sm_I_int]) (by first | omega | (simp only [smA, ints_len] at *; first | done | omega)) (by rw [sm_B_not, sm_B_eql, sm_I_rem, sm_I_int, sm_I_int] at p4; exact p4)
    | (exfalso; rw [sm_B_eql, sm_I_int] at *; simp_all)
noncomputable def f11 : E := (.imp (.and (.cmp .eql (.var 1) (.int 1)) (.and (.not (.cmp .lss (.var 0) (.int 1))) (.and (.not (.cmp .lss (.var 8) (.int 1))) (.and (.not (.cmp .lss (.var 0) (.int 2))) (.and (.not (.cmp .eql (.ar .rem .i64 (.int 2) (.var 1)) (.int 0))) (.and (.not (.cmp .lss (.var 9) (.int 0))) (.and (.not (.cmp .lss (.var 9) (.int 2))) (.and (.cmp .eql (.var 8) (.int 1)) (.and (.not (.cmp .lss (.var 10) (.int 0))) (.and (.not (.cmp .lss (.var 10) (.int 2))) (.and (.not (.cmp .lss (.int 9) (.var 1))) (.and (.not (.cmp .lss (.var 1) (.int 1))) (.and (.not (.cmp .lss (.int 200) (.var 0))) (.not (.cmp .lss (.var 0) (.int 0)))))))))))))))) (.fn 100 (.pr (.fn 23 (.pr (.int 1) (.fn 23 (.pr (.int 2) (.fn 10 (.int 0)))))) (.pr (.int 2) (.var 1)))))
theorem fact11 (ρ : Env) : E.B ρ f11 = true := by
  unfold f11
  rw [sm_B_imp]
  simp only [sm_B_and]
  rintro ⟨p0, p1, p2, p3, p4, p5, p6, p7, p8, p9, p10, p11, p12, p13⟩
  first
    | exact t100_one (by simp only [ints_app, ints_cons, ints_nil, ints_sub0, List.nil_append, List.append_nil, List.cons_append, sm_I_int]) (by first | omega | (simp only [smA, ints_len] at *; first | done | omega))
    | exact t100_two (by simp only [ints_app, ints_cons, ints_nil, ints_sub0, List.nil_append, List.append_nil, List.cons_append, sm_I_int]) (by first | omega | (simp only [smA, ints_len] at *; first | done | omega)) (by rw [sm_B_not, sm_B_eql, sm_I_rem, sm_I_int, sm_I_int] at p4; exact p4)
    | exact t100_two' (by simp only [ints_app, ints_cons, ints_nil, ints_sub0, List.nil_append, List.append_nil, List.cons_append, sm_I_int]) (by first | omega | (simp only [smA, ints_len] at *; first | done | omega)) (by rw [sm_B_not, sm_B_eql, sm_I_rem, sm_I_int, sm_I_int] at p4; exact p4)
    | (exfalso; rw [sm_B_eql, sm_I_int] at *; simp_all)
noncomputable def f12 : E := (.imp (.and (.not (.cmp .lss (.var 0) (.int 1))) (.and (.cmp .lss (.var 0) (.int 2)) (.and (.not (.cmp .lss (.int 200) (.var 0))) (.not (.cmp .lss (.var 0) (.int 0)))))) (.cmp .eql (.ar .sub .i64 (.var 0) (.int 1)) (.int 0)))
theorem fact12 (ρ : Env) : E.B ρ f12 = true := by
  unfold f12
  rw [sm_B_imp]
  simp only [sm_B_and]
  rintro ⟨p0, p1, p2, p3⟩
  try simp only [smA, smW] at *
  try generalize E.I ρ (.var 0) = a0 at *
  obtain ⟨a1, ea1, qa1⟩ := cs_i64 (a0 - (1))
  try simp only [ea1] at *
  omega
noncomputable def f13 : E := (.imp (.and (.not (.cmp .lss (.var 13) (.var 10))) (.and (.not (.cmp .lss (.var 11) (.var 10))) (.and (.cmp .eql (.var 10) (.fn 0 (.var 9))) (.and (.cmp .eql (.var 10) (.fn 7 (.pr (.var 8) (.int 1)))) (.and (.not (.cmp .lss (.fn 6 (.pr (.var 0) (.int 1))) (.var 8))) (.and (.not (.cmp .lss (.var 8) (.int 2))) (.and (.not (.cmp .lss (.int 200) (.var 10))) (.not (.cmp .lss (.var 10) (.int 1)))))))))) (.not (.cmp .lss (.var 11) (.int 0))))
theorem fact13 (ρ : Env) : E.B ρ f13 = true := by
  unfold f13
  rw [sm_B_imp]
  simp only [sm_B_and]
  rintro ⟨p0, p1, p2, p3, p4, p5, p6, p7⟩
  try simp only [smA, smW] at *
  try generalize E.I ρ (.var 13) = a0 at *
  try generalize E.I ρ (.var 10) = a1 at *
  try generalize E.I ρ (.var 11) = a2 at *
  have na3 := fn0_nn (ρ := ρ) (.var 9)
  try generalize E.I ρ (.fn 0 (.var 9)) = a3 at *
  try generalize E.I ρ (.var 8) = a4 at *
  try generalize E.I ρ (.var 0) = a5 at *
  omega
noncomputable def f14 : E := (.imp (.and (.not (.cmp .lss (.var 13) (.var 10))) (.and (.not (.cmp .lss (.var 11) (.var 10))) (.and (.cmp .eql (.var 10) (.fn 0 (.var 9))) (.and (.cmp .eql (.var 10) (.fn 7 (.pr (.var 8) (.int 1)))) (.and (.not (.cmp .lss (.fn 6 (.pr (.var 0) (.int 1))) (.var 8))) (.and (.not (.cmp .lss (.var 8) (.int 2))) (.and (.not (.cmp .lss (.int 200) (.var 10))) (.not (.cmp .lss (.var 10) (.int 1)))))))))) (.not (.cmp .lss (.var 13) (.int 0))))
theorem fact14 (ρ : Env) : E.B ρ f14 = true := by
  unfold f14
  rw [sm_B_imp]
  simp only [sm_B_and]
  rintro ⟨p0, p1, p2, p3, p4, p5, p6, p7⟩
  try simp only [smA, smW] at *
  try generalize E.I ρ (.var 13) = a0 at *
  try generalize E.I ρ (.var 10) = a1 at *
  try generalize E.I ρ (.var 11) = a2 at *
  have na3 := fn0_nn (ρ := ρ) (.var 9)
  try generalize E.I ρ (.fn 0 (.var 9)) = a3 at *
  try generalize E.I ρ (.var 8) = a4 at *
  try generalize E.I ρ (.var 0) = a5 at *
  omega
noncomputable def f15 : E := (.imp (.and (.not (.cmp .lss (.int 200) (.var 0))) (.not (.cmp .lss (.var 0) (.int 0)))) (.cmp .lss (.fn 7 (.pr (.var 0) (.int 1))) (.fn 6 (.pr (.var 0) (.int 1)))))
theorem fact15 (ρ : Env) : E.B ρ f15 = true := by
  unfold f15
  rw [sm_B_imp]
  simp only [sm_B_and]
  rintro ⟨p0, p1⟩
  try simp only [smA, smW] at *
  try generalize E.I ρ (.var 0) = a0 at *
  omega
noncomputable def f16 : E := (.imp (.and (.not (.cmp .lss (.var 0) (.int 1))) (.and (.not (.cmp .eql (.ar .rem .i64 (.int 1) (.var 1)) (.int 0))) (.and (.not (.cmp .lss (.var 2) (.int 0))) (.and (.not (.cmp .lss (.var 2) (.int 1))) (.and (.not (.cmp .lss (.var 3) (.int 0))) (.and (.not (.cmp .lss (.var 3) (.int 1))) (.and (.not (.cmp .lss (.int 9) (.var 1))) (.and (.not (.cmp .lss (.var 1) (.int 1))) (.and (.not (.cmp .lss (.int 200) (.var 0))) (.not (.cmp .lss (.var 0) (.int 0)))))))))))) (.fn 101 (.pr (.fn 23 (.pr (.pr (.int 1) (.int 0)) (.fn 10 (.int 0)))) (.int 1))))
theorem fact16 (ρ : Env) : E.B ρ f16 = true := by
  unfold f16
  rw [sm_B_imp]
  simp only [sm_B_and]
  rintro ⟨p0, p1, p2, p3, p4, p5, p6, p7, p8, p9⟩
  rw [z101]; exact ⟨by simp only [sm_I_int]; rfl, by rfl⟩
noncomputable def f17 : E := (.imp (.and (.cmp .eql (.var 24) (.int 0)) (.and (.not (.cmp .lss (.var 25) (.int 1))) (.and (.not (.cmp .lss (.int 9) (.var 1))) (.and (.not (.cmp .lss (.var 1) (.int 1))) (.and (.not (.cmp .lss (.int 200) (.var 0))) (.not (.cmp .lss (.var 0) (.int 0)))))))) (.fn 103 (.pr (.fn 23 (.pr (.int 1) (.fn 10 (.int 0)))) (.pr (.int 1) (.int 1)))))
theorem fact17 (ρ : Env) : E.B ρ f17 = true := by
  unfold f17
  rw [sm_B_imp]
  simp only [sm_B_and]
  rintro ⟨p0, p1, p2, p3, p4, p5⟩
  first
    | exact t103_one (by simp only [ints_app, ints_cons, ints_nil, ints_sub0, List.nil_append, List.append_nil, List.cons_append, sm_I_int]) (by first | omega | (simp only [smA, ints_len] at *; first | done | omega)) (by first | omega | (simp only [smA, ints_len] at *; first | done | omega))
noncomputable def f18 : E := (.imp (.and (.cmp .eql (.var 24) (.int (-1))) (.and (.not (.cmp .lss (.var 25) (.int 1))) (.and (.cmp .eql (.var 27) (.int 0)) (.and (.not (.cmp .lss (.var 29) (.int 0))) (.and (.not (.cmp .lss (.var 29) (.int 1))) (.and (.not (.cmp .lss (.var 30) (.int 0))) (.and (.not (.cmp .lss (.var 30) (.int 1))) (.and (.not (.cmp .lss (.var 26) (.int 1))) (.and (.not (.cmp .lss (.int 9) (.var 1))) (.and (.not (.cmp .lss (.var 1) (.int 1))) (.and (.not (.cmp .lss (.int 200) (.var 0))) (.not (.cmp .lss (.var 0) (.int 0)))))))))))))) (.fn 106 (.pr (.fn 23 (.pr (.int 1) (.fn 10 (.int 0)))) (.fn 23 (.pr (.int 1) (.fn 10 (.int 0)))))))
theorem fact18 (ρ : Env) : E.B ρ f18 = true := by
  unfold f18
  rw [sm_B_imp]
  simp only [sm_B_and]
  rintro ⟨p0, p1, p2, p3, p4, p5, p6, p7, p8, p9, p10, p11⟩
  first
    | exact t106_lit (by simp only [ints_app, ints_cons, ints_nil, ints_sub0, List.nil_append, List.append_nil, List.cons_append])
noncomputable def f19 : E := (.imp (.and (.not (.cmp .lss (.var 29) (.var 26))) (.and (.not (.cmp .lss (.var 27) (.var 26))) (.and (.cmp .eql (.var 26) (.fn 0 (.var 28))) (.and (.not (.cmp .lss (.int 200) (.var 26))) (.and (.not (.cmp .lss (.var 26) (.int 1))) (.cmp .eql (.var 24) (.fn 7 (.pr (.var 26) (.int 1))))))))) (.cmp .lss (.var 24) (.var 26)))
theorem fact19 (ρ : Env) : E.B ρ f19 = true := by
  unfold f19
  rw [sm_B_imp]
  simp only [sm_B_and]
  rintro ⟨p0, p1, p2, p3, p4, p5⟩
  try simp only [smA, smW] at *
  try generalize E.I ρ (.var 29) = a0 at *
  try generalize E.I ρ (.var 26) = a1 at *
  try generalize E.I ρ (.var 27) = a2 at *
  have na3 := fn0_nn (ρ := ρ) (.var 28)
  try generalize E.I ρ (.fn 0 (.var 28)) = a3 at *
  try generalize E.I ρ (.var 24) = a4 at *
  omega
noncomputable def f20 : E := (.imp (.and (.not (.cmp .lss (.var 35) (.var 34))) (.and (.cmp .eql (.var 34) (.fn 0 (.var 33))) (.and (.cmp .eql (.fn 6 (.pr (.var 34) (.fn 6 (.pr (.var 24) (.int 1))))) (.var 26)) (.and (.not (.cmp .lss (.var 27) (.var 32))) (.and (.not (.cmp .lss (.var 32) (.var 31))) (.and (.cmp .eql (.var 31) (.fn 6 (.pr (.var 24) (.int 1)))) (.and (.cmp .lss (.fn 6 (.pr (.var 24) (.int 1))) (.var 26)) (.and (.not (.cmp .lss (.var 24) (.int (-1)))) (.and (.not (.cmp .lss (.int 200) (.var 34))) (.and (.not (.cmp .lss (.var 34) (.int 1))) (.and (.not (.cmp .lss (.var 26) (.var 31))) (.and (.not (.cmp .lss (.var 31) (.int 0))) (.and (.not (.cmp .lss (.var 29) (.var 26))) (.and (.not (.cmp .lss (.var 27) (.var 26))) (.and (.cmp .eql (.var 26) (.fn 0 (.var 28))) (.and (.not (.cmp .lss (.int 200) (.var 26))) (.not (.cmp .lss (.var 26) (.int 1))))))))))))))))))) (.cmp .lss (.var 24) (.var 26)))
theorem fact20 (ρ : Env) : E.B ρ f20 = true := by
  unfold f20
  rw [sm_B_imp]
  simp only [sm_B_and]
  rintro ⟨p0, p1, p2, p3, p4, p5, p6, p7, p8, p9, p10, p11, p12, p13, p14, p15, p16⟩
  try simp only [smA, smW] at *
  try generalize E.I ρ (.var 35) = a0 at *
  try generalize E.I ρ (.var 34) = a1 at *
  have na2 := fn0_nn (ρ := ρ) (.var 33)
  try generalize E.I ρ (.fn 0 (.var 33)) = a2 at *
  try generalize E.I ρ (.var 24) = a3 at *
  try generalize E.I ρ (.var 26) = a4 at *
  try generalize E.I ρ (.var 27) = a5 at *
  try generalize E.I ρ (.var 32) = a6 at *
  try generalize E.I ρ (.var 31) = a7 at *
  try generalize E.I ρ (.var 29) = a8 at *
  have na9 := fn0_nn (ρ := ρ) (.var 28)
  try generalize E.I ρ (.fn 0 (.var 28)) = a9 at *
  omega
noncomputable def f21 : E := (.imp (.and (.cmp .lss (.var 24) (.int 0)) (.and (.not (.cmp .lss (.var 36) (.int 0))) (.and (.not (.cmp .lss (.var 36) (.var 34))) (.and (.cmp .eql (.var 38) (.fn 0 (.var 37))) (.and (.fn 105 (.pr (.var 37) (.pr (.var 28) (.int 0)))) (.and (.not (.cmp .lss (.var 39) (.var 38))) (.and (.cmp .eql (.var 38) (.var 26)) (.and (.not (.cmp .lss (.var 38) (.int 0))) (.and (.fn 105 (.pr (.var 33) (.pr (.var 28) (.fn 6 (.pr (.var 24) (.int 1)))))) (.and (.fn 104 (.pr (.var 30) (.pr (.var 28) (.fn 6 (.pr (.var 24) (.int 1)))))) (.and (.not (.cmp .lss (.var 35) (.var 34))) (.and (.cmp .eql (.var 34) (.fn 0 (.var 33))) (.and (.cmp .eql (.fn 6 (.pr (.var 34) (.fn 6 (.pr (.var 24) (.int 1))))) (.var 26)) (.and (.not (.cmp .lss (.var 27) (.var 32))) (.and (.not (.cmp .lss (.var 32) (.var 31))) (.and (.cmp .eql (.var 31) (.fn 6 (.pr (.var 24) (.int 1)))) (.and (.cmp .lss (.fn 6 (.pr (.var 24) (.int 1))) (.var 26)) (.and (.not (.cmp .lss (.var 24) (.int (-1)))) (.and (.not (.cmp .lss (.int 200) (.var 34))) (.and (.not (.cmp .lss (.var 34) (.int 1))) (.and (.not (.cmp .lss (.var 26) (.var 31))) (.and (.not (.cmp .lss (.var 31) (.int 0))) (.and (.fn 108 (.var 28)) (.and (.fn 107 (.var 28)) (.and (.fn 106 (.pr (.var 25) (.var 28))) (.and (.not (.cmp .lss (.var 29) (.var 26))) (.and (.not (.cmp .lss (.var 27) (.var 26))) (.and (.cmp .eql (.var 26) (.fn 0 (.var 28))) (.and (.not (.cmp .lss (.int 200) (.var 26))) (.and (.not (.cmp .lss (.var 26) (.int 1))) (.and (.not (.cmp .lss (.int 9) (.var 1))) (.and (.not (.cmp .lss (.var 1) (.int 1))) (.and (.not (.cmp .lss (.int 200) (.var 0))) (.not (.cmp .lss (.var 0) (.int 0)))))))))))))))))))))))))))))))))))) (.fn 106 (.pr (.var 33) (.var 37))))
theorem fact21 (ρ : Env) : E.B ρ f21 = true := by
  unfold f21
  rw [sm_B_imp]
  simp only [sm_B_and]
  rintro ⟨p0, p1, p2, p3, p4, p5, p6, p7, p8, p9, p10, p11, p12, p13, p14, p15, p16, p17, p18, p19, p20, p21, p22, p23, p24, p25, p26, p27, p28, p29, p30, p31, p32, p33⟩
  first
    | exact t106_rev p4 p8 (by first | omega | (simp only [smA, ints_len] at *; first | done | omega))
    | exact t106_rev p8 p4 (by first | omega | (simp only [smA, ints_len] at *; first | done | omega))
    | exact t106_lit (by simp only [ints_app, ints_cons, ints_nil, ints_sub0, List.nil_append, List.append_nil, List.cons_append])
noncomputable def f22 : E := (.imp (.and (.cmp .eql (.var 1) (.int 1)) (.and (.not (.cmp .lss (.var 0) (.int 1))) (.and (.not (.cmp .lss (.var 8) (.int 1))) (.and (.not (.cmp .lss (.var 0) (.int 2))) (.and (.cmp .eql (.ar .rem .i64 (.int 2) (.var 1)) (.int 0)) (.and (.not (.cmp .lss (.var 9) (.int 0))) (.and (.not (.cmp .lss (.var 9) (.int 2))) (.and (.not (.cmp .lss (.var 10) (.int 0))) (.and (.not (.cmp .lss (.var 11) (.int 0))) (.and (.not (.cmp .lss (.var 11) (.int 2))) (.and (.not (.cmp .lss (.int 9) (.var 1))) (.and (.not (.cmp .lss (.var 1) (.int 1))) (.and (.not (.cmp .lss (.int 200) (.var 0))) (.and (.not (.cmp .lss (.var 0) (.int 0))) (.not (.cmp .lss (.var 10) (.int 1))))))))))))))))) (.fn 101 (.pr (.fn 23 (.pr (.pr (.int 1) (.int 0)) (.fn 23 (.pr (.pr (.int 2) (.int 0)) (.fn 10 (.int 0)))))) (.int 2))))
theorem fact22 (ρ : Env) : E.B ρ f22 = true := by
  unfold f22
  rw [sm_B_imp]
  simp only [sm_B_and]
  rintro ⟨p0, p1, p2, p3, p4, p5, p6, p7, p8, p9, p10, p11, p12, p13, p14⟩
  rw [z101]; exact ⟨by simp only [sm_I_int]; rfl, by rfl⟩
noncomputable def f23 : E := (.imp (.and (.cmp .eql (.var 1) (.int 1)) (.and (.not (.cmp .lss (.var 0) (.int 1))) (.and (.not (.cmp .lss (.var 8) (.int 1))) (.and (.not (.cmp .lss (.var 0) (.int 2))) (.and (.not (.cmp .eql (.ar .rem .i64 (.int 2) (.var 1)) (.int 0))) (.and (.not (.cmp .lss (.var 9) (.int 0))) (.and (.not (.cmp .lss (.var 9) (.int 2))) (.and (.not (.cmp .eql (.var 8) (.int 1))) (.and (.not (.cmp .lss (.var 10) (.int 0))) (.and (.not (.cmp .lss (.var 10) (.int 2))) (.and (.not (.cmp .lss (.int 9) (.var 1))) (.and (.not (.cmp .lss (.var 1) (.int 1))) (.and (.not (.cmp .lss (.int 200) (.var 0))) (.not (.cmp .lss (.var 0) (.int 0)))))))))))))))) (.fn 101 (.pr (.fn 23 (.pr (.pr (.int 1) (.int 0)) (.fn 23 (.pr (.pr (.int 2) (.int 0)) (.fn 10 (.int 0)))))) (.int 2))))
theorem fact23 (ρ : Env) : E.B ρ f23 = true := by
  unfold f23
  rw [sm_B_imp]
  simp only [sm_B_and]
  rintro ⟨p0, p1, p2, p3, p4, p5, p6, p7, p8, p9, p10, p11, p12, p13⟩
  rw [z101]; exact ⟨by simp only [sm_I_int]; rfl, by rfl⟩
noncomputable def f24 : E := (.imp (.and (.not (.cmp .lss (.var 0) (.int 1))) (.and (.not (.cmp .lss (.int 200) (.var 0))) (.not (.cmp .lss (.var 0) (.int 0))))) (.not (.cmp .lss (.fn 7 (.pr (.var 0) (.int 1))) (.int 0))))
theorem fact24 (ρ : Env) : E.B ρ f24 = true := by
  unfold f24
  rw [sm_B_imp]
  simp only [sm_B_and]
  rintro ⟨p0, p1, p2⟩
  try simp only [smA, smW] at *
  try generalize E.I ρ (.var 0) = a0 at *
  omega
noncomputable def f25 : E := (.imp (.and (.not (.cmp .lss (.int 200) (.var 0))) (.not (.cmp .lss (.var 0) (.int 0)))) (.cmp .lss (.fn 7 (.pr (.fn 6 (.pr (.var 0) (.int 1))) (.int 2))) (.fn 6 (.pr (.var 0) (.int 1)))))
theorem fact25 (ρ : Env) : E.B ρ f25 = true := by
  unfold f25
  rw [sm_B_imp]
  simp only [sm_B_and]
  rintro ⟨p0, p1⟩
  try simp only [smA, smW] at *
  try generalize E.I ρ (.var 0) = a0 at *
  omega
noncomputable def f26 : E := (.imp (.and (.not (.cmp .lss (.var 25) (.int 1))) (.cmp .eql (.var 26) (.int 0))) (.not (.cmp .lss (.var 25) (.var 26))))
theorem fact26 (ρ : Env) : E.B ρ f26 = true := by
  unfold f26
  rw [sm_B_imp]
  simp only [sm_B_and]
  rintro ⟨p0, p1⟩
  try simp only [smA, smW] at *
  try generalize E.I ρ (.var 25) = a0 at *
  try generalize E.I ρ (.var 26) = a1 at *
  omega
noncomputable def f27 : E := (.imp (.cmp .eql (.var 26) (.int 0)) (.not (.cmp .lss (.ar .add .i64 (.var 26) (.int 1)) (.int 0))))
theorem fact27 (ρ : Env) : E.B ρ f27 = true := by
  unfold f27
  rw [sm_B_imp]
  intro p0
  try simp only [smA, smW] at *
  try generalize E.I ρ (.var 26) = a0 at *
  obtain ⟨a1, ea1, qa1⟩ := cs_i64 (a0 + (1))
  try simp only [ea1] at *
  omega
noncomputable def f28 : E := (.imp (.and (.not (.cmp .lss (.var 29) (.var 26))) (.and (.not (.cmp .lss (.var 27) (.var 26))) (.and (.cmp .eql (.var 26) (.fn 0 (.var 28))) (.and (.not (.cmp .lss (.int 200) (.var 26))) (.and (.not (.cmp .lss (.var 26) (.int 1))) (.cmp .eql (.var 24) (.fn 7 (.pr (.var 26) (.int 1))))))))) (.not (.cmp .lss (.ar .sub .i64 (.var 26) (.int 1)) (.int 0))))
theorem fact28 (ρ : Env) : E.B ρ f28 = true := by
  unfold f28
  rw [sm_B_imp]
  simp only [sm_B_and]
  rintro ⟨p0, p1, p2, p3, p4, p5⟩
  try simp only [smA, smW] at *
  try generalize E.I ρ (.var 29) = a0 at *
  try generalize E.I ρ (.var 26) = a1 at *
  try generalize E.I ρ (.var 27) = a2 at *
  have na3 := fn0_nn (ρ := ρ) (.var 28)
  try generalize E.I ρ (.fn 0 (.var 28)) = a3 at *
  try generalize E.I ρ (.var 24) = a4 at *
  obtain ⟨a5, ea5, qa5⟩ := cs_i64 (a1 - (1))
  try simp only [ea5] at *
  omega
noncomputable def f29 : E := (.imp (.and (.not (.cmp .lss (.var 35) (.var 34))) (.and (.cmp .eql (.var 34) (.fn 0 (.var 33))) (.and (.cmp .eql (.fn 6 (.pr (.var 34) (.fn 6 (.pr (.var 24) (.int 1))))) (.var 26)) (.and (.not (.cmp .lss (.var 27) (.var 32))) (.and (.not (.cmp .lss (.var 32) (.var 31))) (.and (.cmp .eql (.var 31) (.fn 6 (.pr (.var 24) (.int 1)))) (.and (.cmp .lss (.fn 6 (.pr (.var 24) (.int 1))) (.var 26)) (.and (.not (.cmp .lss (.var 24) (.int (-1)))) (.and (.not (.cmp .lss (.int 200) (.var 34))) (.and (.not (.cmp .lss (.var 34) (.int 1))) (.and (.not (.cmp .lss (.var 26) (.var 31))) (.and (.not (.cmp .lss (.var 31) (.int 0))) (.and (.not (.cmp .lss (.var 29) (.var 26))) (.and (.not (.cmp .lss (.var 27) (.var 26))) (.and (.cmp .eql (.var 26) (.fn 0 (.var 28))) (.and (.not (.cmp .lss (.int 200) (.var 26))) (.not (.cmp .lss (.var 26) (.int 1))))))))))))))))))) (.not (.cmp .lss (.int 2147483648) (.var 31))))
theorem fact29 (ρ : Env) : E.B ρ f29 = true := by
  unfold f29
  rw [sm_B_imp]
  simp only [sm_B_and]
  rintro ⟨p0, p1, p2, p3, p4, p5, p6, p7, p8, p9, p10, p11, p12, p13, p14, p15, p16⟩
  try simp only [smA, smW] at *
  try generalize E.I ρ (.var 35) = a0 at *
  try generalize E.I ρ (.var 34) = a1 at *
  have na2 := fn0_nn (ρ := ρ) (.var 33)
  try generalize E.I ρ (.fn 0 (.var 33)) = a2 at *
  try generalize E.I ρ (.var 24) = a3 at *
  try generalize E.I ρ (.var 26) = a4 at *
  try generalize E.I ρ (.var 27) = a5 at *
  try generalize E.I ρ (.var 32) = a6 at *
  try generalize E.I ρ (.var 31) = a7 at *
  try generalize E.I ρ (.var 29) = a8 at *
  have na9 := fn0_nn (ρ := ρ) (.var 28)
  try generalize E.I ρ (.fn 0 (.var 28)) = a9 at *
  omega
noncomputable def f30 : E := (.imp (.and (.cmp .lss (.var 24) (.int 0)) (.and (.cmp .eql (.var 38) (.fn 0 (.var 37))) (.and (.cmp .eql (.var 38) (.var 26)) (.and (.not (.cmp .lss (.var 35) (.var 34))) (.and (.cmp .eql (.var 34) (.fn 0 (.var 33))) (.and (.cmp .eql (.fn 6 (.pr (.var 34) (.fn 6 (.pr (.var 24) (.int 1))))) (.var 26)) (.and (.not (.cmp .lss (.var 27) (.var 32))) (.and (.not (.cmp .lss (.var 32) (.var 31))) (.and (.cmp .eql (.var 31) (.fn 6 (.pr (.var 24) (.int 1)))) (.and (.cmp .lss (.fn 6 (.pr (.var 24) (.int 1))) (.var 26)) (.and (.not (.cmp .lss (.var 24) (.int (-1)))) (.and (.not (.cmp .lss (.int 200) (.var 34))) (.and (.not (.cmp .lss (.var 34) (.int 1))) (.and (.not (.cmp .lss (.var 26) (.var 31))) (.and (.not (.cmp .lss (.var 31) (.int 0))) (.and (.not (.cmp .lss (.var 29) (.var 26))) (.and (.not (.cmp .lss (.var 27) (.var 26))) (.and (.cmp .eql (.var 26) (.fn 0 (.var 28))) (.and (.not (.cmp .lss (.int 200) (.var 26))) (.not (.cmp .lss (.var 26) (.int 1)))))))))))))))))))))) (.cmp .eql (.var 34) (.var 38)))
theorem fact30 (ρ : Env) : E.B ρ f30 = true := by
  unfold f30
  rw [sm_B_imp]
  simp only [sm_B_and]
  rintro ⟨p0, p1, p2, p3, p4, p5, p6, p7, p8, p9, p10, p11, p12, p13, p14, p15, p16, p17, p18, p19⟩
  try simp only [smA, smW] at *
  try generalize E.I ρ (.var 24) = a0 at *
  try generalize E.I ρ (.var 38) = a1 at *
  have na2 := fn0_nn (ρ := ρ) (.var 37)
  try generalize E.I ρ (.fn 0 (.var 37)) = a2 at *
  try generalize E.I ρ (.var 26) = a3 at *
  try generalize E.I ρ (.var 35) = a4 at *
  try generalize E.I ρ (.var 34) = a5 at *
  have na6 := fn0_nn (ρ := ρ) (.var 33)
  try generalize E.I ρ (.fn 0 (.var 33)) = a6 at *
  try generalize E.I ρ (.var 27) = a7 at *
  try generalize E.I ρ (.var 32) = a8 at *
  try generalize E.I ρ (.var 31) = a9 at *
  try generalize E.I ρ (.var 29) = a10 at *
  have na11 := fn0_nn (ρ := ρ) (.var 28)
  try generalize E.I ρ (.fn 0 (.var 28)) = a11 at *
  omega
noncomputable def f31 : E := (.imp (.and (.not (.cmp .lss (.int 200) (.var 0))) (.and (.not (.cmp .lss (.var 0) (.int 0))) (.not (.cmp .lss (.var 10) (.int 1))))) (.cmp .lss (.fn 7 (.pr (.fn 6 (.pr (.var 0) (.int 1))) (.int 3))) (.fn 7 (.pr (.var 0) (.int 1)))))
theorem fact31 (ρ : Env) : E.B ρ f31 = true := by
  unfold f31
  rw [sm_B_imp]
  simp only [sm_B_and]
  rintro ⟨p0, p1, p2⟩
  try simp only [smA, smW] at *
  try generalize E.I ρ (.var 0) = a0 at *
  try generalize E.I ρ (.var 10) = a1 at *
  omega
noncomputable def f32 : E := (.imp (.and (.not (.cmp .lss (.int 200) (.var 0))) (.not (.cmp .lss (.var 0) (.int 0)))) (.cmp .lss (.fn 7 (.pr (.fn 6 (.pr (.var 0) (.int 1))) (.int 3))) (.fn 7 (.pr (.var 0) (.int 1)))))
theorem fact32 (ρ : Env) : E.B ρ f32 = true := by
  unfold f32
  rw [sm_B_imp]
  simp only [sm_B_and]
  rintro ⟨p0, p1⟩
  try simp only [smA, smW] at *
  try generalize E.I ρ (.var 0) = a0 at *
  omega
noncomputable def f33 : E := (.imp (.and (.not (.cmp .lss (.var 0) (.int 1))) (.and (.not (.cmp .lss (.int 200) (.var 0))) (.not (.cmp .lss (.var 0) (.int 0))))) (.not (.cmp .lss (.fn 7 (.pr (.fn 6 (.pr (.var 0) (.int 1))) (.int 2))) (.int 0))))
theorem fact33 (ρ : Env) : E.B ρ f33 = true := by
  unfold f33
  rw [sm_B_imp]
  simp only [sm_B_and]
  rintro ⟨p0, p1, p2⟩
  try simp only [smA, smW] at *
  try generalize E.I ρ (.var 0) = a0 at *
  omega
noncomputable def f34 : E := (.imp (.cmp .eql (.var 26) (.int 0)) (.not (.cmp .lss (.int 1) (.ar .add .i64 (.var 26) (.int 1)))))
theorem fact34 (ρ : Env) : E.B ρ f34 = true := by
  unfold f34
  rw [sm_B_imp]
  intro p0
  try simp only [smA, smW] at *
  try generalize E.I ρ (.var 26) = a0 at *
  obtain ⟨a1, ea1, qa1⟩ := cs_i64 (a0 + (1))
  try simp only [ea1] at *
  omega
noncomputable def f35 : E := (.imp (.and (.not (.cmp .lss (.var 29) (.var 26))) (.and (.not (.cmp .lss (.var 27) (.var 26))) (.and (.cmp .eql (.var 26) (.fn 0 (.var 28))) (.and (.not (.cmp .lss (.int 200) (.var 26))) (.and (.not (.cmp .lss (.var 26) (.int 1))) (.cmp .eql (.var 24) (.fn 7 (.pr (.var 26) (.int 1))))))))) (.cmp .lss (.ar .sub .i64 (.var 26) (.int 1)) (.var 26)))
theorem fact35 (ρ : Env) : E.B ρ f35 = true := by
  unfold f35
  rw [sm_B_imp]
  simp only [sm_B_and]
  rintro ⟨p0, p1, p2, p3, p4, p5⟩
  try simp only [smA, smW] at *
  try generalize E.I ρ (.var 29) = a0 at *
  try generalize E.I ρ (.var 26) = a1 at *
  try generalize E.I ρ (.var 27) = a2 at *
  have na3 := fn0_nn (ρ := ρ) (.var 28)
  try generalize E.I ρ (.fn 0 (.var 28)) = a3 at *
  try generalize E.I ρ (.var 24) = a4 at *
  obtain ⟨a5, ea5, qa5⟩ := cs_i64 (a1 - (1))
  try simp only [ea5] at *
  omega
noncomputable def f36 : E := (.imp (.and (.not (.cmp .lss (.var 24) (.int 0))) (.and (.not (.cmp .lss (.var 35) (.var 34))) (.and (.cmp .eql (.var 34) (.fn 0 (.var 33))) (.and (.cmp .eql (.fn 6 (.pr (.var 34) (.fn 6 (.pr (.var 24) (.int 1))))) (.var 26)) (.and (.not (.cmp .lss (.var 27) (.var 32))) (.and (.not (.cmp .lss (.var 32) (.var 31))) (.and (.cmp .eql (.var 31) (.fn 6 (.pr (.var 24) (.int 1)))) (.and (.cmp .lss (.fn 6 (.pr (.var 24) (.int 1))) (.var 26)) (.and (.not (.cmp .lss (.var 24) (.int (-1)))) (.and (.not (.cmp .lss (.int 200) (.var 34))) (.and (.not (.cmp .lss (.var 34) (.int 1))) (.and (.not (.cmp .lss (.var 26) (.var 31))) (.and (.not (.cmp .lss (.var 31) (.int 0))) (.and (.not (.cmp .lss (.var 29) (.var 26))) (.and (.not (.cmp .lss (.var 27) (.var 26))) (.and (.cmp .eql (.var 26) (.fn 0 (.var 28))) (.and (.not (.cmp .lss (.int 200) (.var 26))) (.not (.cmp .lss (.var 26) (.int 1)))))))))))))))))))) (.not (.cmp .lss (.ar .sub .i64 (.var 31) (.int 1)) (.int 0))))
theorem fact36 (ρ : Env) : E.B ρ f36 = true := by
  unfold f36
  rw [sm_B_imp]
  simp only [sm_B_and]
  rintro ⟨p0, p1, p2, p3, p4, p5, p6, p7, p8, p9, p10, p11, p12, p13, p14, p15, p16, p17⟩
  try simp only [smA, smW] at *
  try generalize E.I ρ (.var 24) = a0 at *
  try generalize E.I ρ (.var 35) = a1 at *
  try generalize E.I ρ (.var 34) = a2 at *
  have na3 := fn0_nn (ρ := ρ) (.var 33)
  try generalize E.I ρ (.fn 0 (.var 33)) = a3 at *
  try generalize E.I ρ (.var 26) = a4 at *
  try generalize E.I ρ (.var 27) = a5 at *
  try generalize E.I ρ (.var 32) = a6 at *
  try generalize E.I ρ (.var 31) = a7 at *
  try generalize E.I ρ (.var 29) = a8 at *
  have na9 := fn0_nn (ρ := ρ) (.var 28)
  try generalize E.I ρ (.fn 0 (.var 28)) = a9 at *
  obtain ⟨a10, ea10, qa10⟩ := cs_i64 (a7 - (1))
  try simp only [ea10] at *
  omega
noncomputable def f37 : E := (.imp (.and (.cmp .lss (.var 24) (.int 0)) (.and (.not (.cmp .lss (.var 35) (.var 34))) (.and (.cmp .eql (.var 34) (.fn 0 (.var 33))) (.and (.cmp .eql (.fn 6 (.pr (.var 34) (.fn 6 (.pr (.var 24) (.int 1))))) (.var 26)) (.and (.not (.cmp .lss (.var 27) (.var 32))) (.and (.not (.cmp .lss (.var 32) (.var 31))) (.and (.cmp .eql (.var 31) (.fn 6 (.pr (.var 24) (.int 1)))) (.and (.cmp .lss (.fn 6 (.pr (.var 24) (.int 1))) (.var 26)) (.and (.not (.cmp .lss (.var 24) (.int (-1)))) (.and (.not (.cmp .lss (.int 200) (.var 34))) (.and (.not (.cmp .lss (.var 34) (.int 1))) (.and (.not (.cmp .lss (.var 26) (.var 31))) (.and (.not (.cmp .lss (.var 31) (.int 0))) (.and (.not (.cmp .lss (.var 29) (.var 26))) (.and (.not (.cmp .lss (.var 27) (.var 26))) (.and (.cmp .eql (.var 26) (.fn 0 (.var 28))) (.and (.not (.cmp .lss (.int 200) (.var 26))) (.not (.cmp .lss (.var 26) (.int 1)))))))))))))))))))) (.cmp .eql (.var 31) (.int 0)))
theorem fact37 (ρ : Env) : E.B ρ f37 = true := by
  unfold f37
  rw [sm_B_imp]
  simp only [sm_B_and]
  rintro ⟨p0, p1, p2, p3, p4, p5, p6, p7, p8, p9, p10, p11, p12, p13, p14, p15, p16, p17⟩
  try simp only [smA, smW] at *
  try generalize E.I ρ (.var 24) = a0 at *
  try generalize E.I ρ (.var 35) = a1 at *
  try generalize E.I ρ (.var 34) = a2 at *
  have na3 := fn0_nn (ρ := ρ) (.var 33)
  try generalize E.I ρ (.fn 0 (.var 33)) = a3 at *
  try generalize E.I ρ (.var 26) = a4 at *
  try generalize E.I ρ (.var 27) = a5 at *
  try generalize E.I ρ (.var 32) = a6 at *
  try generalize E.I ρ (.var 31) = a7 at *
  try generalize E.I ρ (.var 29) = a8 at *
  have na9 := fn0_nn (ρ := ρ) (.var 28)
  try generalize E.I ρ (.fn 0 (.var 28)) = a9 at *
  omega
noncomputable def f38 : E := (.imp (.and (.not (.cmp .lss (.var 0) (.int 2))) (.and (.not (.cmp .lss (.int 200) (.var 0))) (.and (.not (.cmp .lss (.var 0) (.int 0))) (.not (.cmp .lss (.var 10) (.int 1)))))) (.not (.cmp .lss (.fn 7 (.pr (.fn 6 (.pr (.var 0) (.int 1))) (.int 3))) (.int 0))))
theorem fact38 (ρ : Env) : E.B ρ f38 = true := by
  unfold f38
  rw [sm_B_imp]
  simp only [sm_B_and]
  rintro ⟨p0, p1, p2, p3⟩
  try simp only [smA, smW] at *
  try generalize E.I ρ (.var 0) = a0 at *
  try generalize E.I ρ (.var 10) = a1 at *
  omega
noncomputable def f39 : E := (.imp (.and (.not (.cmp .lss (.var 0) (.int 2))) (.and (.not (.cmp .lss (.int 200) (.var 0))) (.not (.cmp .lss (.var 0) (.int 0))))) (.not (.cmp .lss (.fn 7 (.pr (.fn 6 (.pr (.var 0) (.int 1))) (.int 3))) (.int 0))))
theorem fact39 (ρ : Env) : E.B ρ f39 = true := by
  unfold f39
  rw [sm_B_imp]
  simp only [sm_B_and]
  rintro ⟨p0, p1, p2⟩
  try simp only [smA, smW] at *
  try generalize E.I ρ (.var 0) = a0 at *
  omega
noncomputable def f40 : E := (.imp (.and (.cmp .eql (.var 1) (.int 1)) (.and (.not (.cmp .lss (.var 0) (.int 1))) (.and (.not (.cmp .lss (.var 8) (.int 1))) (.and (.not (.cmp .lss (.var 0) (.int 2))) (.and (.not (.cmp .eql (.ar .rem .i64 (.int 2) (.var 1)) (.int 0))) (.and (.not (.cmp .lss (.var 9) (.int 0))) (.and (.not (.cmp .lss (.var 9) (.int 2))) (.and (.cmp .eql (.var 8) (.int 1)) (.and (.not (.cmp .lss (.var 10) (.int 0))) (.and (.not (.cmp .lss (.var 10) (.int 2))) (.and (.not (.cmp .lss (.int 9) (.var 1))) (.and (.not (.cmp .lss (.var 1) (.int 1))) (.and (.not (.cmp .lss (.int 200) (.var 0))) (.not (.cmp .lss (.var 0) (.int 0)))))))))))))))) (.fn 101 (.pr (.fn 23 (.pr (.pr (.int 1) (.int 0)) (.fn 23 (.pr (.pr (.int 2) (.int 0)) (.fn 10 (.int 0)))))) (.int 2))))
theorem fact40 (ρ : Env) : E.B ρ f40 = true := by
  unfold f40
  rw [sm_B_imp]
  simp only [sm_B_and]
  rintro ⟨p0, p1, p2, p3, p4, p5, p6, p7, p8, p9, p10, p11, p12, p13⟩
  rw [z101]; exact ⟨by simp only [sm_I_int]; rfl, by rfl⟩
noncomputable def f41 : E := (.imp (.and (.not (.cmp .lss (.var 0) (.var 8))) (.and (.cmp .eql (.ar .rem .i64 (.var 8) (.var 1)) (.int 0)) (.and (.not (.cmp .lss (.var 15) (.int 0))) (.and (.not (.cmp .lss (.var 15) (.fn 6 (.pr (.var 10) (.int 1))))) (.and (.not (.cmp .lss (.int 4096) (.var 8))) (.and (.not (.cmp .lss (.int 9) (.var 1))) (.and (.not (.cmp .lss (.var 1) (.int 1))) (.and (.not (.cmp .lss (.int 200) (.var 0))) (.and (.not (.cmp .lss (.var 0) (.int 0))) (.and (.fn 101 (.pr (.var 14) (.var 10))) (.and (.fn 100 (.pr (.var 12) (.pr (.var 10) (.var 1)))) (.and (.fn 100 (.pr (.var 9) (.pr (.var 10) (.var 1)))) (.and (.not (.cmp .lss (.var 13) (.var 10))) (.and (.not (.cmp .lss (.var 11) (.var 10))) (.and (.cmp .eql (.var 10) (.fn 0 (.var 9))) (.and (.cmp .eql (.var 10) (.fn 7 (.pr (.var 8) (.int 1)))) (.and (.not (.cmp .lss (.fn 6 (.pr (.var 0) (.int 1))) (.var 8))) (.and (.not (.cmp .lss (.var 8) (.int 2))) (.and (.not (.cmp .lss (.int 200) (.var 10))) (.not (.cmp .lss (.var 10) (.int 1)))))))))))))))))))))) (.not (.fn 33 (.pr (.var 14) (.var 8)))))
theorem fact41 (ρ : Env) : E.B ρ f41 = true := by
  unfold f41
  rw [sm_B_imp]
  simp only [sm_B_and]
  rintro ⟨p0, p1, p2, p3, p4, p5, p6, p7, p8, p9, p10, p11, p12, p13, p14, p15, p16, p17, p18, p19⟩
  rw [sm_B_not]
  exact t101_no p9 (by first | omega | (simp only [smA, ints_len] at *; first | done | omega)) (by first | omega | (simp only [smA, ints_len] at *; first | done | omega))
noncomputable def f42 : E := (.imp (.cmp .eql (.var 26) (.int 0)) (.not (.cmp .lss (.fn 7 (.pr (.int 1) (.ar .add .i64 (.var 26) (.int 1)))) (.int 0))))
theorem fact42 (ρ : Env) : E.B ρ f42 = true := by
  unfold f42
  rw [sm_B_imp]
  intro p0
  try simp only [smA, smW] at *
  try generalize E.I ρ (.var 26) = a0 at *
  obtain ⟨a1, ea1, qa1⟩ := cs_i64 (a0 + (1))
  try simp only [ea1] at *
  omega
noncomputable def f43 : E := (.imp (.and (.fn 104 (.pr (.var 30) (.pr (.var 28) (.var 26)))) (.and (.fn 108 (.var 28)) (.and (.fn 107 (.var 28)) (.and (.fn 106 (.pr (.var 25) (.var 28))) (.and (.not (.cmp .lss (.var 1) (.int 1))) (.and (.not (.cmp .lss (.var 0) (.int 0))) (.and (.not (.cmp .lss (.var 29) (.var 26))) (.and (.not (.cmp .lss (.var 27) (.var 26))) (.and (.cmp .eql (.var 26) (.fn 0 (.var 28))) (.and (.not (.cmp .lss (.int 200) (.var 26))) (.and (.not (.cmp .lss (.var 26) (.int 1))) (.cmp .eql (.var 24) (.fn 7 (.pr (.var 26) (.int 1))))))))))))))) (.cmp .eql (.fn 1 (.pr (.var 25) (.ar .sub .i64 (.var 26) (.int 1)))) (.fn 1 (.pr (.var 28) (.var 24)))))
theorem fact43 (ρ : Env) : E.B ρ f43 = true := by
  unfold f43
  rw [sm_B_imp]
  simp only [sm_B_and]
  rintro ⟨p0, p1, p2, p3, p4, p5, p6, p7, p8, p9, p10, p11⟩
  have g0 := t107_nth p2 (i := (.var 24))
  have g1 := t106_nth p3 (i := (.ar .sub .i64 (.var 26) (.int 1))) (j := (.var 24))
  obtain ⟨v0, ev0, qv0⟩ := cs_i64 (E.I ρ (.var 26) - E.I ρ (.int 1))
  have ew0 : E.I ρ (.ar .sub .i64 (.var 26) (.int 1)) = v0 := ev0
  try simp only [ew0] at g0 g1
  clear p0 p1 p2 p3
  try simp only [smA, smW] at *
  try generalize E.I ρ (.var 1) = a0 at *
  try generalize E.I ρ (.var 0) = a1 at *
  try generalize E.I ρ (.var 29) = a2 at *
  try generalize E.I ρ (.var 26) = a3 at *
  try generalize E.I ρ (.var 27) = a4 at *
  have na5 := fn0_nn (ρ := ρ) (.var 28)
  try generalize E.I ρ (.fn 0 (.var 28)) = a5 at *
  try generalize E.I ρ (.var 24) = a6 at *
  try generalize E.I ρ (.fn 1 (.pr (.var 25) (.ar .sub .i64 (.var 26) (.int 1)))) = a7 at *
  try generalize E.I ρ (.fn 1 (.pr (.var 28) (.var 24))) = a8 at *
  omega
noncomputable def f44 : E := (.imp (.and (.cmp .eql (.fn 1 (.pr (.var 25) (.ar .sub .i64 (.var 26) (.int 1)))) (.fn 1 (.pr (.var 28) (.var 24)))) (.and (.not (.cmp .lss (.fn 1 (.pr (.var 28) (.var 24))) (.int 1))) (.and (.not (.cmp .lss (.int 4096) (.fn 1 (.pr (.var 28) (.var 24))))) (.and (.fn 33 (.pr (.var 30) (.fn 1 (.pr (.var 28) (.var 24))))) (.and (.fn 108 (.var 28)) (.and (.fn 107 (.var 28)) (.and (.fn 106 (.pr (.var 25) (.var 28))) (.and (.not (.cmp .lss (.var 29) (.var 26))) (.and (.not (.cmp .lss (.var 27) (.var 26))) (.and (.cmp .eql (.var 26) (.fn 0 (.var 28))) (.and (.not (.cmp .lss (.int 200) (.var 26))) (.and (.not (.cmp .lss (.var 26) (.int 1))) (.and (.not (.cmp .lss (.int 9) (.var 1))) (.and (.not (.cmp .lss (.var 1) (.int 1))) (.and (.not (.cmp .lss (.int 200) (.var 0))) (.and (.not (.cmp .lss (.var 0) (.int 0))) (.and (.fn 104 (.pr (.var 30) (.pr (.var 28) (.var 26)))) (.cmp .eql (.var 24) (.fn 7 (.pr (.var 26) (.int 1))))))))))))))))))))) (.fn 103 (.pr (.var 25) (.pr (.var 26) (.fn 1 (.pr (.var 28) (.var 24)))))))
theorem fact44 (ρ : Env) : E.B ρ f44 = true := by
  unfold f44
  rw [sm_B_imp]
  simp only [sm_B_and]
  rintro ⟨p0, p1, p2, p3, p4, p5, p6, p7, p8, p9, p10, p11, p12, p13, p14, p15, p16, p17⟩
  obtain ⟨v0, ev0, qv0⟩ := cs_i64 (E.I ρ (.var 26) - E.I ρ (.int 1))
  have ew0 : E.I ρ (.ar .sub .i64 (.var 26) (.int 1)) = v0 := ev0
  first
    | exact t103_of p6 p4 (by first | omega | (simp only [smA, ints_len, ew0] at *; first | done | omega)) (by first | omega | (simp only [smA, ints_len, ew0] at *; first | done | omega)) (by first | omega | (simp only [smA, ints_len, ew0] at *; first | done | omega))
    | exact t103_one (by simp only [ints_app, ints_cons, ints_nil, ints_sub0, List.nil_append, List.append_nil, List.cons_append, sm_I_int]) (by first | omega | (simp only [smA, ints_len, ew0] at *; first | done | omega)) (by first | omega | (simp only [smA, ints_len, ew0] at *; first | done | omega))
noncomputable def f45 : E := (.imp (.and (.not (.cmp .lss (.var 35) (.var 34))) (.and (.cmp .eql (.var 34) (.fn 0 (.var 33))) (.and (.cmp .eql (.fn 6 (.pr (.var 34) (.fn 6 (.pr (.var 24) (.int 1))))) (.var 26)) (.and (.not (.cmp .lss (.var 27) (.var 32))) (.and (.not (.cmp .lss (.var 32) (.var 31))) (.and (.cmp .eql (.var 31) (.fn 6 (.pr (.var 24) (.int 1)))) (.and (.cmp .lss (.fn 6 (.pr (.var 24) (.int 1))) (.var 26)) (.and (.not (.cmp .lss (.var 24) (.int (-1)))) (.and (.not (.cmp .lss (.int 200) (.var 34))) (.and (.not (.cmp .lss (.var 34) (.int 1))) (.and (.not (.cmp .lss (.var 26) (.var 31))) (.and (.not (.cmp .lss (.var 31) (.int 0))) (.and (.not (.cmp .lss (.var 29) (.var 26))) (.and (.not (.cmp .lss (.var 27) (.var 26))) (.and (.cmp .eql (.var 26) (.fn 0 (.var 28))) (.and (.not (.cmp .lss (.int 200) (.var 26))) (.not (.cmp .lss (.var 26) (.int 1))))))))))))))))))) (.cmp .lss (.ar .sub .i64 (.var 31) (.int 1)) (.var 31)))
theorem fact45 (ρ : Env) : E.B ρ f45 = true := by
  unfold f45
  rw [sm_B_imp]
  simp only [sm_B_and]
  rintro ⟨p0, p1, p2, p3, p4, p5, p6, p7, p8, p9, p10, p11, p12, p13, p14, p15, p16⟩
  try simp only [smA, smW] at *
  try generalize E.I ρ (.var 35) = a0 at *
  try generalize E.I ρ (.var 34) = a1 at *
  have na2 := fn0_nn (ρ := ρ) (.var 33)
  try generalize E.I ρ (.fn 0 (.var 33)) = a2 at *
  try generalize E.I ρ (.var 24) = a3 at *
  try generalize E.I ρ (.var 26) = a4 at *
  try generalize E.I ρ (.var 27) = a5 at *
  try generalize E.I ρ (.var 32) = a6 at *
  try generalize E.I ρ (.var 31) = a7 at *
  try generalize E.I ρ (.var 29) = a8 at *
  have na9 := fn0_nn (ρ := ρ) (.var 28)
  try generalize E.I ρ (.fn 0 (.var 28)) = a9 at *
  obtain ⟨a10, ea10, qa10⟩ := cs_i64 (a7 - (1))
  try simp only [ea10] at *
  omega
noncomputable def f46 : E := (.imp (.and (.cmp .eql (.ar .rem .i64 (.var 8) (.var 1)) (.int 0)) (.and (.not (.cmp .lss (.int 9) (.var 1))) (.and (.not (.cmp .lss (.int 200) (.var 0))) (.and (.not (.cmp .lss (.var 0) (.int 0))) (.and (.not (.cmp .lss (.var 13) (.var 10))) (.and (.not (.cmp .lss (.var 11) (.var 10))) (.and (.cmp .eql (.var 10) (.fn 0 (.var 9))) (.and (.cmp .eql (.var 10) (.fn 7 (.pr (.var 8) (.int 1)))) (.and (.not (.cmp .lss (.fn 6 (.pr (.var 0) (.int 1))) (.var 8))) (.and (.not (.cmp .lss (.var 8) (.int 2))) (.and (.not (.cmp .lss (.int 200) (.var 10))) (.not (.cmp .lss (.var 10) (.int 1)))))))))))))) (.cmp .eql (.fn 6 (.pr (.var 10) (.int 1))) (.var 8)))
theorem fact46 (ρ : Env) : E.B ρ f46 = true := by
  unfold f46
  rw [sm_B_imp]
  simp only [sm_B_and]
  rintro ⟨p0, p1, p2, p3, p4, p5, p6, p7, p8, p9, p10, p11⟩
  clear p0
  try simp only [smA, smW] at *
  try generalize E.I ρ (.var 1) = a0 at *
  try generalize E.I ρ (.var 0) = a1 at *
  try generalize E.I ρ (.var 13) = a2 at *
  try generalize E.I ρ (.var 10) = a3 at *
  try generalize E.I ρ (.var 11) = a4 at *
  have na5 := fn0_nn (ρ := ρ) (.var 9)
  try generalize E.I ρ (.fn 0 (.var 9)) = a5 at *
  try generalize E.I ρ (.var 8) = a6 at *
  omega
noncomputable def f47 : E := (.imp (.and (.not (.cmp .lss (.var 0) (.var 8))) (.and (.cmp .eql (.ar .rem .i64 (.var 8) (.var 1)) (.int 0)) (.and (.cmp .eql (.fn 6 (.pr (.var 10) (.int 1))) (.var 8)) (.and (.not (.cmp .lss (.int 9) (.var 1))) (.and (.not (.cmp .lss (.int 200) (.var 0))) (.and (.not (.cmp .lss (.var 0) (.int 0))) (.and (.not (.cmp .lss (.var 13) (.var 10))) (.and (.not (.cmp .lss (.var 11) (.var 10))) (.and (.cmp .eql (.var 10) (.fn 0 (.var 9))) (.and (.cmp .eql (.var 10) (.fn 7 (.pr (.var 8) (.int 1)))) (.and (.not (.cmp .lss (.fn 6 (.pr (.var 0) (.int 1))) (.var 8))) (.and (.not (.cmp .lss (.var 8) (.int 2))) (.and (.not (.cmp .lss (.int 200) (.var 10))) (.not (.cmp .lss (.var 10) (.int 1)))))))))))))))) (.not (.cmp .lss (.int 200) (.fn 6 (.pr (.var 10) (.int 1))))))
theorem fact47 (ρ : Env) : E.B ρ f47 = true := by
  unfold f47
  rw [sm_B_imp]
  simp only [sm_B_and]
  rintro ⟨p0, p1, p2, p3, p4, p5, p6, p7, p8, p9, p10, p11, p12, p13⟩
  clear p1
  try simp only [smA, smW] at *
  try generalize E.I ρ (.var 0) = a0 at *
  try generalize E.I ρ (.var 8) = a1 at *
  try generalize E.I ρ (.var 10) = a2 at *
  try generalize E.I ρ (.var 1) = a3 at *
  try generalize E.I ρ (.var 13) = a4 at *
  try generalize E.I ρ (.var 11) = a5 at *
  have na6 := fn0_nn (ρ := ρ) (.var 9)
  try generalize E.I ρ (.fn 0 (.var 9)) = a6 at *
  omega
noncomputable def f48 : E := (.imp (.and (.cmp .eql (.ar .rem .i64 (.var 8) (.var 1)) (.int 0)) (.and (.not (.cmp .lss (.int 9) (.var 1))) (.and (.not (.cmp .lss (.int 200) (.var 0))) (.and (.not (.cmp .lss (.var 0) (.int 0))) (.and (.not (.cmp .lss (.var 13) (.var 10))) (.and (.not (.cmp .lss (.var 11) (.var 10))) (.and (.cmp .eql (.var 10) (.fn 0 (.var 9))) (.and (.cmp .eql (.var 10) (.fn 7 (.pr (.var 8) (.int 1)))) (.and (.not (.cmp .lss (.fn 6 (.pr (.var 0) (.int 1))) (.var 8))) (.and (.not (.cmp .lss (.var 8) (.int 2))) (.and (.not (.cmp .lss (.int 200) (.var 10))) (.not (.cmp .lss (.var 10) (.int 1)))))))))))))) (.not (.cmp .lss (.int 4096) (.var 8))))
theorem fact48 (ρ : Env) : E.B ρ f48 = true := by
  unfold f48
  rw [sm_B_imp]
  simp only [sm_B_and]
  rintro ⟨p0, p1, p2, p3, p4, p5, p6, p7, p8, p9, p10, p11⟩
  clear p0
  try simp only [smA, smW] at *
  try generalize E.I ρ (.var 1) = a0 at *
  try generalize E.I ρ (.var 0) = a1 at *
  try generalize E.I ρ (.var 13) = a2 at *
  try generalize E.I ρ (.var 10) = a3 at *
  try generalize E.I ρ (.var 11) = a4 at *
  have na5 := fn0_nn (ρ := ρ) (.var 9)
  try generalize E.I ρ (.fn 0 (.var 9)) = a5 at *
  try generalize E.I ρ (.var 8) = a6 at *
  omega
noncomputable def f49 : E := (.imp (.and (.not (.cmp .lss (.var 0) (.var 8))) (.and (.not (.cmp .eql (.ar .rem .i64 (.var 8) (.var 1)) (.int 0))) (.and (.not (.cmp .lss (.var 15) (.int 0))) (.and (.not (.cmp .lss (.var 15) (.fn 6 (.pr (.var 10) (.int 1))))) (.and (.not (.cmp .lss (.int 4096) (.var 8))) (.and (.not (.cmp .lss (.int 9) (.var 1))) (.and (.not (.cmp .lss (.var 1) (.int 1))) (.and (.not (.cmp .lss (.int 200) (.var 0))) (.and (.not (.cmp .lss (.var 0) (.int 0))) (.and (.fn 101 (.pr (.var 14) (.var 10))) (.and (.fn 100 (.pr (.var 12) (.pr (.var 10) (.var 1)))) (.and (.fn 100 (.pr (.var 9) (.pr (.var 10) (.var 1)))) (.and (.not (.cmp .lss (.var 13) (.var 10))) (.and (.not (.cmp .lss (.var 11) (.var 10))) (.and (.cmp .eql (.var 10) (.fn 0 (.var 9))) (.and (.cmp .eql (.var 10) (.fn 7 (.pr (.var 8) (.int 1)))) (.and (.not (.cmp .lss (.fn 6 (.pr (.var 0) (.int 1))) (.var 8))) (.and (.not (.cmp .lss (.var 8) (.int 2))) (.and (.not (.cmp .lss (.int 200) (.var 10))) (.not (.cmp .lss (.var 10) (.int 1)))))))))))))))))))))) (.not (.fn 33 (.pr (.var 14) (.var 8)))))
theorem fact49 (ρ : Env) : E.B ρ f49 = true := by
  unfold f49
  rw [sm_B_imp]
  simp only [sm_B_and]
  rintro ⟨p0, p1, p2, p3, p4, p5, p6, p7, p8, p9, p10, p11, p12, p13, p14, p15, p16, p17, p18, p19⟩
  rw [sm_B_not]
  exact t101_no p9 (by first | omega | (simp only [smA, ints_len] at *; first | done | omega)) (by first | omega | (simp only [smA, ints_len] at *; first | done | omega))
noncomputable def f50 : E := (.imp (.and (.not (.cmp .lss (.int 200) (.var 0))) (.and (.not (.cmp .lss (.var 0) (.int 0))) (.and (.not (.cmp .lss (.var 13) (.var 10))) (.and (.not (.cmp .lss (.var 11) (.var 10))) (.and (.cmp .eql (.var 10) (.fn 0 (.var 9))) (.and (.cmp .eql (.var 10) (.fn 7 (.pr (.var 8) (.int 1)))) (.and (.not (.cmp .lss (.fn 6 (.pr (.var 0) (.int 1))) (.var 8))) (.and (.not (.cmp .lss (.var 8) (.int 2))) (.and (.not (.cmp .lss (.int 200) (.var 10))) (.not (.cmp .lss (.var 10) (.int 1)))))))))))) (.cmp .eql (.fn 6 (.pr (.var 10) (.int 1))) (.var 8)))
theorem fact50 (ρ : Env) : E.B ρ f50 = true := by
  unfold f50
  rw [sm_B_imp]
  simp only [sm_B_and]
  rintro ⟨p0, p1, p2, p3, p4, p5, p6, p7, p8, p9⟩
  try simp only [smA, smW] at *
  try generalize E.I ρ (.var 0) = a0 at *
  try generalize E.I ρ (.var 13) = a1 at *
  try generalize E.I ρ (.var 10) = a2 at *
  try generalize E.I ρ (.var 11) = a3 at *
  have na4 := fn0_nn (ρ := ρ) (.var 9)
  try generalize E.I ρ (.fn 0 (.var 9)) = a4 at *
  try generalize E.I ρ (.var 8) = a5 at *
  omega
noncomputable def f51 : E := (.imp (.cmp .eql (.var 26) (.int 0)) (.not (.cmp .lss (.int 1) (.fn 6 (.pr (.ar .add .i64 (.var 26) (.int 1)) (.fn 7 (.pr (.int 1) (.ar .add .i64 (.var 26) (.int 1)))))))))
theorem fact51 (ρ : Env) : E.B ρ f51 = true := by
  unfold f51
  rw [sm_B_imp]
  intro p0
  try simp only [smA, smW] at *
  try generalize E.I ρ (.var 26) = a0 at *
  obtain ⟨a1, ea1, qa1⟩ := cs_i64 (a0 + (1))
  try simp only [ea1] at *
  omega
noncomputable def f52 : E := (.imp (.and (.not (.cmp .lss (.fn 1 (.pr (.var 28) (.var 24))) (.int 1))) (.and (.not (.cmp .lss (.int 4096) (.fn 1 (.pr (.var 28) (.var 24))))) (.and (.fn 33 (.pr (.var 30) (.fn 1 (.pr (.var 28) (.var 24))))) (.and (.fn 108 (.var 28)) (.and (.fn 107 (.var 28)) (.and (.fn 106 (.pr (.var 25) (.var 28))) (.and (.not (.cmp .lss (.var 29) (.var 26))) (.and (.not (.cmp .lss (.var 27) (.var 26))) (.and (.cmp .eql (.var 26) (.fn 0 (.var 28))) (.and (.not (.cmp .lss (.int 200) (.var 26))) (.and (.not (.cmp .lss (.var 26) (.int 1))) (.and (.not (.cmp .lss (.int 9) (.var 1))) (.and (.not (.cmp .lss (.var 1) (.int 1))) (.and (.not (.cmp .lss (.int 200) (.var 0))) (.and (.not (.cmp .lss (.var 0) (.int 0))) (.and (.fn 104 (.pr (.var 30) (.pr (.var 28) (.var 26)))) (.cmp .eql (.var 24) (.fn 7 (.pr (.var 26) (.int 1)))))))))))))))))))) (.fn 103 (.pr (.var 25) (.pr (.var 26) (.fn 1 (.pr (.var 28) (.var 24)))))))
theorem fact52 (ρ : Env) : E.B ρ f52 = true := by
  unfold f52
  rw [sm_B_imp]
  simp only [sm_B_and]
  rintro ⟨p0, p1, p2, p3, p4, p5, p6, p7, p8, p9, p10, p11, p12, p13, p14, p15, p16⟩
  first
    | exact t103_of p5 p3 (by first | omega | (simp only [smA, ints_len] at *; first | done | omega)) (by first | omega | (simp only [smA, ints_len] at *; first | done | omega)) (by first | omega | (simp only [smA, ints_len] at *; first | done | omega))
    | exact t103_one (by simp only [ints_app, ints_cons, ints_nil, ints_sub0, List.nil_append, List.append_nil, List.cons_append, sm_I_int]) (by first | omega | (simp only [smA, ints_len] at *; first | done | omega)) (by first | omega | (simp only [smA, ints_len] at *; first | done | omega))
noncomputable def f53 : E := (.imp (.and (.not (.cmp .lss (.var 35) (.var 34))) (.and (.cmp .eql (.var 34) (.fn 0 (.var 33))) (.and (.cmp .eql (.fn 6 (.pr (.var 34) (.fn 6 (.pr (.var 24) (.int 1))))) (.var 26)) (.and (.not (.cmp .lss (.var 27) (.var 32))) (.and (.not (.cmp .lss (.var 32) (.var 31))) (.and (.cmp .eql (.var 31) (.fn 6 (.pr (.var 24) (.int 1)))) (.and (.cmp .lss (.fn 6 (.pr (.var 24) (.int 1))) (.var 26)) (.and (.not (.cmp .lss (.var 24) (.int (-1)))) (.and (.not (.cmp .lss (.int 200) (.var 34))) (.and (.not (.cmp .lss (.var 34) (.int 1))) (.and (.not (.cmp .lss (.var 26) (.var 31))) (.and (.not (.cmp .lss (.var 31) (.int 0))) (.and (.not (.cmp .lss (.var 29) (.var 26))) (.and (.not (.cmp .lss (.var 27) (.var 26))) (.and (.cmp .eql (.var 26) (.fn 0 (.var 28))) (.and (.not (.cmp .lss (.int 200) (.var 26))) (.not (.cmp .lss (.var 26) (.int 1))))))))))))))))))) (.cmp .lss (.ar .sub .i64 (.var 31) (.int 1)) (.var 26)))
theorem fact53 (ρ : Env) : E.B ρ f53 = true := by
  unfold f53
  rw [sm_B_imp]
  simp only [sm_B_and]
  rintro ⟨p0, p1, p2, p3, p4, p5, p6, p7, p8, p9, p10, p11, p12, p13, p14, p15, p16⟩
  try simp only [smA, smW] at *
  try generalize E.I ρ (.var 35) = a0 at *
  try generalize E.I ρ (.var 34) = a1 at *
  have na2 := fn0_nn (ρ := ρ) (.var 33)
  try generalize E.I ρ (.fn 0 (.var 33)) = a2 at *
  try generalize E.I ρ (.var 24) = a3 at *
  try generalize E.I ρ (.var 26) = a4 at *
  try generalize E.I ρ (.var 27) = a5 at *
  try generalize E.I ρ (.var 32) = a6 at *
  try generalize E.I ρ (.var 31) = a7 at *
  try generalize E.I ρ (.var 29) = a8 at *
  have na9 := fn0_nn (ρ := ρ) (.var 28)
  try generalize E.I ρ (.fn 0 (.var 28)) = a9 at *
  obtain ⟨a10, ea10, qa10⟩ := cs_i64 (a7 - (1))
  try simp only [ea10] at *
  omega
noncomputable def f54 : E := (.imp (.and (.not (.cmp .lss (.var 0) (.var 8))) (.and (.cmp .eql (.ar .rem .i64 (.var 8) (.var 1)) (.int 0)) (.and (.not (.cmp .lss (.var 15) (.int 0))) (.and (.not (.cmp .lss (.var 15) (.fn 6 (.pr (.var 10) (.int 1))))) (.and (.not (.cmp .lss (.int 9) (.var 1))) (.and (.not (.cmp .lss (.var 1) (.int 1))) (.and (.not (.cmp .lss (.int 200) (.var 0))) (.and (.not (.cmp .lss (.var 0) (.int 0))) (.and (.fn 101 (.pr (.var 14) (.var 10))) (.and (.fn 100 (.pr (.var 12) (.pr (.var 10) (.var 1)))) (.and (.fn 100 (.pr (.var 9) (.pr (.var 10) (.var 1)))) (.and (.not (.cmp .lss (.var 13) (.var 10))) (.and (.not (.cmp .lss (.var 11) (.var 10))) (.and (.cmp .eql (.var 10) (.fn 0 (.var 9))) (.and (.cmp .eql (.var 10) (.fn 7 (.pr (.var 8) (.int 1)))) (.and (.not (.cmp .lss (.fn 6 (.pr (.var 0) (.int 1))) (.var 8))) (.and (.not (.cmp .lss (.var 8) (.int 2))) (.and (.not (.cmp .lss (.int 200) (.var 10))) (.not (.cmp .lss (.var 10) (.int 1))))))))))))))))))))) (.not (.fn 33 (.pr (.var 14) (.var 8)))))
theorem fact54 (ρ : Env) : E.B ρ f54 = true := by
  unfold f54
  rw [sm_B_imp]
  simp only [sm_B_and]
  rintro ⟨p0, p1, p2, p3, p4, p5, p6, p7, p8, p9, p10, p11, p12, p13, p14, p15, p16, p17, p18⟩
  rw [sm_B_not]
  exact t101_no p8 (by first | omega | (simp only [smA, ints_len] at *; first | done | omega)) (by first | omega | (simp only [smA, ints_len] at *; first | done | omega))
noncomputable def f55 : E := (.imp (.and (.not (.cmp .lss (.var 0) (.var 8))) (.and (.cmp .eql (.ar .rem .i64 (.var 8) (.var 1)) (.int 0)) (.and (.not (.cmp .lss (.int 9) (.var 1))) (.and (.not (.cmp .lss (.int 200) (.var 0))) (.and (.not (.cmp .lss (.var 0) (.int 0))) (.and (.not (.cmp .lss (.var 13) (.var 10))) (.and (.not (.cmp .lss (.var 11) (.var 10))) (.and (.cmp .eql (.var 10) (.fn 0 (.var 9))) (.and (.cmp .eql (.var 10) (.fn 7 (.pr (.var 8) (.int 1)))) (.and (.not (.cmp .lss (.fn 6 (.pr (.var 0) (.int 1))) (.var 8))) (.and (.not (.cmp .lss (.var 8) (.int 2))) (.and (.not (.cmp .lss (.int 200) (.var 10))) (.not (.cmp .lss (.var 10) (.int 1))))))))))))))) (.not (.cmp .lss (.int 200) (.fn 6 (.pr (.var 10) (.int 1))))))
theorem fact55 (ρ : Env) : E.B ρ f55 = true := by
  unfold f55
  rw [sm_B_imp]
  simp only [sm_B_and]
  rintro ⟨p0, p1, p2, p3, p4, p5, p6, p7, p8, p9, p10, p11, p12⟩
  clear p1
  try simp only [smA, smW] at *
  try generalize E.I ρ (.var 0) = a0 at *
  try generalize E.I ρ (.var 8) = a1 at *
  try generalize E.I ρ (.var 1) = a2 at *
  try generalize E.I ρ (.var 13) = a3 at *
  try generalize E.I ρ (.var 10) = a4 at *
  try generalize E.I ρ (.var 11) = a5 at *
  have na6 := fn0_nn (ρ := ρ) (.var 9)
  try generalize E.I ρ (.fn 0 (.var 9)) = a6 at *
  omega
noncomputable def f56 : E := (.imp (.and (.not (.cmp .lss (.var 0) (.var 8))) (.and (.not (.cmp .lss (.int 200) (.var 0))) (.and (.not (.cmp .lss (.var 0) (.int 0))) (.and (.not (.cmp .lss (.var 13) (.var 10))) (.and (.not (.cmp .lss (.var 11) (.var 10))) (.and (.cmp .eql (.var 10) (.fn 0 (.var 9))) (.and (.cmp .eql (.var 10) (.fn 7 (.pr (.var 8) (.int 1)))) (.and (.not (.cmp .lss (.fn 6 (.pr (.var 0) (.int 1))) (.var 8))) (.and (.not (.cmp .lss (.var 8) (.int 2))) (.and (.not (.cmp .lss (.int 200) (.var 10))) (.not (.cmp .lss (.var 10) (.int 1))))))))))))) (.not (.cmp .lss (.int 200) (.fn 6 (.pr (.var 10) (.int 1))))))
theorem fact56 (ρ : Env) : E.B ρ f56 = true := by
  unfold f56
  rw [sm_B_imp]
  simp only [sm_B_and]
  rintro ⟨p0, p1, p2, p3, p4, p5, p6, p7, p8, p9, p10⟩
  try simp only [smA, smW] at *
  try generalize E.I ρ (.var 0) = a0 at *
  try generalize E.I ρ (.var 8) = a1 at *
  try generalize E.I ρ (.var 13) = a2 at *
  try generalize E.I ρ (.var 10) = a3 at *
  try generalize E.I ρ (.var 11) = a4 at *
  have na5 := fn0_nn (ρ := ρ) (.var 9)
  try generalize E.I ρ (.fn 0 (.var 9)) = a5 at *
  omega
noncomputable def f57 : E := (.imp (.and (.not (.cmp .lss (.int 200) (.var 0))) (.and (.not (.cmp .lss (.var 0) (.int 0))) (.and (.not (.cmp .lss (.var 13) (.var 10))) (.and (.not (.cmp .lss (.var 11) (.var 10))) (.and (.cmp .eql (.var 10) (.fn 0 (.var 9))) (.and (.cmp .eql (.var 10) (.fn 7 (.pr (.var 8) (.int 1)))) (.and (.not (.cmp .lss (.fn 6 (.pr (.var 0) (.int 1))) (.var 8))) (.and (.not (.cmp .lss (.var 8) (.int 2))) (.and (.not (.cmp .lss (.int 200) (.var 10))) (.not (.cmp .lss (.var 10) (.int 1)))))))))))) (.not (.cmp .lss (.int 4096) (.var 8))))
theorem fact57 (ρ : Env) : E.B ρ f57 = true := by
  unfold f57
  rw [sm_B_imp]
  simp only [sm_B_and]
  rintro ⟨p0, p1, p2, p3, p4, p5, p6, p7, p8, p9⟩
  try simp only [smA, smW] at *
  try generalize E.I ρ (.var 0) = a0 at *
  try generalize E.I ρ (.var 13) = a1 at *
  try generalize E.I ρ (.var 10) = a2 at *
  try generalize E.I ρ (.var 11) = a3 at *
  have na4 := fn0_nn (ρ := ρ) (.var 9)
  try generalize E.I ρ (.fn 0 (.var 9)) = a4 at *
  try generalize E.I ρ (.var 8) = a5 at *
  omega
noncomputable def f58 : E := (.imp (.and (.cmp .lss (.var 0) (.var 8)) (.and (.not (.cmp .lss (.var 15) (.int 0))) (.and (.not (.cmp .lss (.var 15) (.var 10))) (.and (.not (.cmp .lss (.int 9) (.var 1))) (.and (.not (.cmp .lss (.var 1) (.int 1))) (.and (.not (.cmp .lss (.int 200) (.var 0))) (.and (.not (.cmp .lss (.var 0) (.int 0))) (.and (.fn 101 (.pr (.var 14) (.var 10))) (.and (.fn 100 (.pr (.var 12) (.pr (.var 10) (.var 1)))) (.and (.fn 100 (.pr (.var 9) (.pr (.var 10) (.var 1)))) (.and (.not (.cmp .lss (.var 13) (.var 10))) (.and (.not (.cmp .lss (.var 11) (.var 10))) (.and (.cmp .eql (.var 10) (.fn 0 (.var 9))) (.and (.cmp .eql (.var 10) (.fn 7 (.pr (.var 8) (.int 1)))) (.and (.not (.cmp .lss (.fn 6 (.pr (.var 0) (.int 1))) (.var 8))) (.and (.not (.cmp .lss (.var 8) (.int 2))) (.and (.not (.cmp .lss (.int 200) (.var 10))) (.not (.cmp .lss (.var 10) (.int 1)))))))))))))))))))) (.fn 106 (.pr (.var 9) (.var 12))))
theorem fact58 (ρ : Env) : E.B ρ f58 = true := by
  unfold f58
  rw [sm_B_imp]
  simp only [sm_B_and]
  rintro ⟨p0, p1, p2, p3, p4, p5, p6, p7, p8, p9, p10, p11, p12, p13, p14, p15, p16, p17⟩
  first
    | exact t106_of p8 p9
    | exact t106_of p9 p8
    | exact t106_lit (by simp only [ints_app, ints_cons, ints_nil, ints_sub0, List.nil_append, List.append_nil, List.cons_append])
noncomputable def f59 : E := (.imp (.cmp .eql (.var 26) (.int 0)) (.not (.cmp .lss (.int 2147483648) (.fn 6 (.pr (.var 26) (.fn 7 (.pr (.int 1) (.ar .add .i64 (.var 26) (.int 1)))))))))
theorem fact59 (ρ : Env) : E.B ρ f59 = true := by
  unfold f59
  rw [sm_B_imp]
  intro p0
  try simp only [smA, smW] at *
  try generalize E.I ρ (.var 26) = a0 at *
  obtain ⟨a1, ea1, qa1⟩ := cs_i64 (a0 + (1))
  try simp only [ea1] at *
  omega
noncomputable def f60 : E := (.imp (.and (.fn 104 (.pr (.var 30) (.pr (.var 28) (.var 26)))) (.and (.fn 108 (.var 28)) (.and (.fn 107 (.var 28)) (.and (.fn 106 (.pr (.var 25) (.var 28))) (.and (.not (.cmp .lss (.var 1) (.int 1))) (.and (.not (.cmp .lss (.var 0) (.int 0))) (.and (.fn 33 (.pr (.var 30) (.fn 1 (.pr (.var 28) (.var 24))))) (.and (.cmp .eql (.var 31) (.fn 7 (.pr (.var 26) (.int 1)))) (.and (.not (.cmp .lss (.var 29) (.var 26))) (.and (.not (.cmp .lss (.var 27) (.var 26))) (.and (.cmp .eql (.var 26) (.fn 0 (.var 28))) (.and (.not (.cmp .lss (.int 200) (.var 26))) (.and (.not (.cmp .lss (.var 26) (.int 1))) (.cmp .eql (.var 24) (.fn 7 (.pr (.var 26) (.int 1))))))))))))))))) (.not (.cmp .lss (.var 31) (.int 0))))
theorem fact60 (ρ : Env) : E.B ρ f60 = true := by
  unfold f60
  rw [sm_B_imp]
  simp only [sm_B_and]
  rintro ⟨p0, p1, p2, p3, p4, p5, p6, p7, p8, p9, p10, p11, p12, p13⟩
  have g0 := t107_nth p2 (i := (.var 24))
  clear p0 p1 p2 p3 p6
  try simp only [smA, smW] at *
  try generalize E.I ρ (.var 1) = a0 at *
  try generalize E.I ρ (.var 0) = a1 at *
  try generalize E.I ρ (.var 31) = a2 at *
  try generalize E.I ρ (.var 26) = a3 at *
  try generalize E.I ρ (.var 29) = a4 at *
  try generalize E.I ρ (.var 27) = a5 at *
  have na6 := fn0_nn (ρ := ρ) (.var 28)
  try generalize E.I ρ (.fn 0 (.var 28)) = a6 at *
  try generalize E.I ρ (.var 24) = a7 at *
  omega
noncomputable def f61 : E := (.imp (.and (.cmp .eql (.var 31) (.fn 7 (.pr (.var 26) (.int 1)))) (.and (.not (.cmp .lss (.var 29) (.var 26))) (.and (.not (.cmp .lss (.var 27) (.var 26))) (.and (.cmp .eql (.var 26) (.fn 0 (.var 28))) (.and (.not (.cmp .lss (.int 200) (.var 26))) (.and (.not (.cmp .lss (.var 26) (.int 1))) (.cmp .eql (.var 24) (.fn 7 (.pr (.var 26) (.int 1)))))))))) (.not (.cmp .lss (.ar .add .i64 (.var 31) (.int 1)) (.int 0))))
theorem fact61 (ρ : Env) : E.B ρ f61 = true := by
  unfold f61
  rw [sm_B_imp]
  simp only [sm_B_and]
  rintro ⟨p0, p1, p2, p3, p4, p5, p6⟩
  try simp only [smA, smW] at *
  try generalize E.I ρ (.var 31) = a0 at *
  try generalize E.I ρ (.var 26) = a1 at *
  try generalize E.I ρ (.var 29) = a2 at *
  try generalize E.I ρ (.var 27) = a3 at *
  have na4 := fn0_nn (ρ := ρ) (.var 28)
  try generalize E.I ρ (.fn 0 (.var 28)) = a4 at *
  try generalize E.I ρ (.var 24) = a5 at *
  obtain ⟨a6, ea6, qa6⟩ := cs_i64 (a0 + (1))
  try simp only [ea6] at *
  omega
noncomputable def f62 : E := (.imp (.and (.not (.cmp .lss (.var 24) (.int 0))) (.and (.cmp .eql (.var 31) (.int 0)) (.and (.not (.cmp .lss (.var 35) (.var 34))) (.and (.cmp .eql (.var 34) (.fn 0 (.var 33))) (.and (.cmp .eql (.fn 6 (.pr (.var 34) (.fn 6 (.pr (.var 24) (.int 1))))) (.var 26)) (.and (.not (.cmp .lss (.var 27) (.var 32))) (.and (.not (.cmp .lss (.var 32) (.var 31))) (.and (.cmp .eql (.var 31) (.fn 6 (.pr (.var 24) (.int 1)))) (.and (.cmp .lss (.fn 6 (.pr (.var 24) (.int 1))) (.var 26)) (.and (.not (.cmp .lss (.var 24) (.int (-1)))) (.and (.not (.cmp .lss (.int 200) (.var 34))) (.and (.not (.cmp .lss (.var 34) (.int 1))) (.and (.not (.cmp .lss (.var 26) (.var 31))) (.and (.not (.cmp .lss (.var 31) (.int 0))) (.and (.not (.cmp .lss (.var 29) (.var 26))) (.and (.not (.cmp .lss (.var 27) (.var 26))) (.and (.cmp .eql (.var 26) (.fn 0 (.var 28))) (.and (.not (.cmp .lss (.int 200) (.var 26))) (.not (.cmp .lss (.var 26) (.int 1))))))))))))))))))))) (.cmp .eql (.fn 1 (.pr (.var 28) (.var 24))) (.int 0)))
theorem fact62 (ρ : Env) : E.B ρ f62 = true := by
  unfold f62
  rw [sm_B_imp]
  simp only [sm_B_and]
  rintro ⟨p0, p1, p2, p3, p4, p5, p6, p7, p8, p9, p10, p11, p12, p13, p14, p15, p16, p17, p18⟩
  try simp only [smA, smW] at *
  try generalize E.I ρ (.var 24) = a0 at *
  try generalize E.I ρ (.var 31) = a1 at *
  try generalize E.I ρ (.var 35) = a2 at *
  try generalize E.I ρ (.var 34) = a3 at *
  have na4 := fn0_nn (ρ := ρ) (.var 33)
  try generalize E.I ρ (.fn 0 (.var 33)) = a4 at *
  try generalize E.I ρ (.var 26) = a5 at *
  try generalize E.I ρ (.var 27) = a6 at *
  try generalize E.I ρ (.var 32) = a7 at *
  try generalize E.I ρ (.var 29) = a8 at *
  have na9 := fn0_nn (ρ := ρ) (.var 28)
  try generalize E.I ρ (.fn 0 (.var 28)) = a9 at *
  try generalize E.I ρ (.fn 1 (.pr (.var 28) (.var 24))) = a10 at *
  omega
noncomputable def f63 : E := (.imp (.and (.fn 105 (.pr (.var 33) (.pr (.var 28) (.fn 6 (.pr (.var 24) (.int 1)))))) (.and (.fn 104 (.pr (.var 30) (.pr (.var 28) (.fn 6 (.pr (.var 24) (.int 1)))))) (.and (.fn 108 (.var 28)) (.and (.fn 107 (.var 28)) (.and (.fn 106 (.pr (.var 25) (.var 28))) (.and (.not (.cmp .lss (.var 1) (.int 1))) (.and (.not (.cmp .lss (.var 0) (.int 0))) (.and (.not (.cmp .lss (.var 24) (.int 0))) (.and (.cmp .eql (.var 31) (.int 0)) (.and (.not (.cmp .lss (.var 35) (.var 34))) (.and (.cmp .eql (.var 34) (.fn 0 (.var 33))) (.and (.cmp .eql (.fn 6 (.pr (.var 34) (.fn 6 (.pr (.var 24) (.int 1))))) (.var 26)) (.and (.not (.cmp .lss (.var 27) (.var 32))) (.and (.not (.cmp .lss (.var 32) (.var 31))) (.and (.cmp .eql (.var 31) (.fn 6 (.pr (.var 24) (.int 1)))) (.and (.cmp .lss (.fn 6 (.pr (.var 24) (.int 1))) (.var 26)) (.and (.not (.cmp .lss (.var 24) (.int (-1)))) (.and (.not (.cmp .lss (.int 200) (.var 34))) (.and (.not (.cmp .lss (.var 34) (.int 1))) (.and (.not (.cmp .lss (.var 26) (.var 31))) (.and (.not (.cmp .lss (.var 31) (.int 0))) (.and (.not (.cmp .lss (.var 29) (.var 26))) (.and (.not (.cmp .lss (.var 27) (.var 26))) (.and (.cmp .eql (.var 26) (.fn 0 (.var 28))) (.and (.not (.cmp .lss (.int 200) (.var 26))) (.not (.cmp .lss (.var 26) (.int 1)))))))))))))))))))))))))))) (.not (.cmp .eql (.fn 1 (.pr (.var 28) (.var 24))) (.int 0))))
theorem fact63 (ρ : Env) : E.B ρ f63 = true := by
  unfold f63
  rw [sm_B_imp]
  simp only [sm_B_and]
  rintro ⟨p0, p1, p2, p3, p4, p5, p6, p7, p8, p9, p10, p11, p12, p13, p14, p15, p16, p17, p18, p19, p20, p21, p22, p23, p24, p25⟩
  have g0 := t107_nth p3 (i := (.var 24))
  clear p0 p1 p2 p3 p4
  try simp only [smA, smW] at *
  try generalize E.I ρ (.var 1) = a0 at *
  try generalize E.I ρ (.var 0) = a1 at *
  try generalize E.I ρ (.var 24) = a2 at *
  try generalize E.I ρ (.var 31) = a3 at *
  try generalize E.I ρ (.var 35) = a4 at *
  try generalize E.I ρ (.var 34) = a5 at *
  have na6 := fn0_nn (ρ := ρ) (.var 33)
  try generalize E.I ρ (.fn 0 (.var 33)) = a6 at *
  try generalize E.I ρ (.var 26) = a7 at *
  try generalize E.I ρ (.var 27) = a8 at *
  try generalize E.I ρ (.var 32) = a9 at *
  try generalize E.I ρ (.var 29) = a10 at *
  have na11 := fn0_nn (ρ := ρ) (.var 28)
  try generalize E.I ρ (.fn 0 (.var 28)) = a11 at *
  try generalize E.I ρ (.fn 1 (.pr (.var 28) (.var 24))) = a12 at *
  omega
noncomputable def f64 : E := (.imp (.and (.fn 105 (.pr (.var 33) (.pr (.var 28) (.fn 6 (.pr (.var 24) (.int 1)))))) (.and (.fn 104 (.pr (.var 30) (.pr (.var 28) (.fn 6 (.pr (.var 24) (.int 1)))))) (.and (.fn 108 (.var 28)) (.and (.fn 107 (.var 28)) (.and (.fn 106 (.pr (.var 25) (.var 28))) (.and (.not (.cmp .lss (.var 1) (.int 1))) (.and (.not (.cmp .lss (.var 0) (.int 0))) (.and (.not (.cmp .lss (.var 24) (.int 0))) (.and (.not (.cmp .eql (.var 31) (.int 0))) (.and (.not (.cmp .lss (.var 35) (.var 34))) (.and (.cmp .eql (.var 34) (.fn 0 (.var 33))) (.and (.cmp .eql (.fn 6 (.pr (.var 34) (.fn 6 (.pr (.var 24) (.int 1))))) (.var 26)) (.and (.not (.cmp .lss (.var 27) (.var 32))) (.and (.not (.cmp .lss (.var 32) (.var 31))) (.and (.cmp .eql (.var 31) (.fn 6 (.pr (.var 24) (.int 1)))) (.and (.cmp .lss (.fn 6 (.pr (.var 24) (.int 1))) (.var 26)) (.and (.not (.cmp .lss (.var 24) (.int (-1)))) (.and (.not (.cmp .lss (.int 200) (.var 34))) (.and (.not (.cmp .lss (.var 34) (.int 1))) (.and (.not (.cmp .lss (.var 26) (.var 31))) (.and (.not (.cmp .lss (.var 31) (.int 0))) (.and (.not (.cmp .lss (.var 29) (.var 26))) (.and (.not (.cmp .lss (.var 27) (.var 26))) (.and (.cmp .eql (.var 26) (.fn 0 (.var 28))) (.and (.not (.cmp .lss (.int 200) (.var 26))) (.not (.cmp .lss (.var 26) (.int 1)))))))))))))))))))))))))))) (.cmp .eql (.fn 1 (.pr (.var 25) (.ar .sub .i64 (.var 31) (.int 1)))) (.fn 1 (.pr (.var 28) (.var 24)))))
theorem fact64 (ρ : Env) : E.B ρ f64 = true := by
  unfold f64
  rw [sm_B_imp]
  simp only [sm_B_and]
  rintro ⟨p0, p1, p2, p3, p4, p5, p6, p7, p8, p9, p10, p11, p12, p13, p14, p15, p16, p17, p18, p19, p20, p21, p22, p23, p24, p25⟩
  have g0 := t107_nth p3 (i := (.var 24))
  have g1 := t106_nth p4 (i := (.ar .sub .i64 (.var 31) (.int 1))) (j := (.var 24))
  obtain ⟨v0, ev0, qv0⟩ := cs_i64 (E.I ρ (.var 31) - E.I ρ (.int 1))
  have ew0 : E.I ρ (.ar .sub .i64 (.var 31) (.int 1)) = v0 := ev0
  try simp only [ew0] at g0 g1
  clear p0 p1 p2 p3 p4
  try simp only [smA, smW] at *
  try generalize E.I ρ (.var 1) = a0 at *
  try generalize E.I ρ (.var 0) = a1 at *
  try generalize E.I ρ (.var 24) = a2 at *
  try generalize E.I ρ (.var 31) = a3 at *
  try generalize E.I ρ (.var 35) = a4 at *
  try generalize E.I ρ (.var 34) = a5 at *
  have na6 := fn0_nn (ρ := ρ) (.var 33)
  try generalize E.I ρ (.fn 0 (.var 33)) = a6 at *
  try generalize E.I ρ (.var 26) = a7 at *
  try generalize E.I ρ (.var 27) = a8 at *
  try generalize E.I ρ (.var 32) = a9 at *
  try generalize E.I ρ (.var 29) = a10 at *
  have na11 := fn0_nn (ρ := ρ) (.var 28)
  try generalize E.I ρ (.fn 0 (.var 28)) = a11 at *
  try generalize E.I ρ (.fn 1 (.pr (.var 25) (.ar .sub .i64 (.var 31) (.int 1)))) = a12 at *
  try generalize E.I ρ (.fn 1 (.pr (.var 28) (.var 24))) = a13 at *
  omega
noncomputable def f65 : E := (.imp (.and (.not (.cmp .lss (.var 24) (.int 0))) (.and (.not (.cmp .eql (.var 31) (.int 0))) (.and (.cmp .eql (.fn 1 (.pr (.var 25) (.ar .sub .i64 (.var 31) (.int 1)))) (.fn 1 (.pr (.var 28) (.var 24)))) (.and (.not (.cmp .lss (.fn 1 (.pr (.var 28) (.var 24))) (.int 1))) (.and (.not (.cmp .lss (.int 4096) (.fn 1 (.pr (.var 28) (.var 24))))) (.and (.fn 33 (.pr (.var 30) (.fn 1 (.pr (.var 28) (.var 24))))) (.and (.fn 105 (.pr (.var 33) (.pr (.var 28) (.fn 6 (.pr (.var 24) (.int 1)))))) (.and (.fn 104 (.pr (.var 30) (.pr (.var 28) (.fn 6 (.pr (.var 24) (.int 1)))))) (.and (.not (.cmp .lss (.var 35) (.var 34))) (.and (.cmp .eql (.var 34) (.fn 0 (.var 33))) (.and (.cmp .eql (.fn 6 (.pr (.var 34) (.fn 6 (.pr (.var 24) (.int 1))))) (.var 26)) (.and (.not (.cmp .lss (.var 27) (.var 32))) (.and (.not (.cmp .lss (.var 32) (.var 31))) (.and (.cmp .eql (.var 31) (.fn 6 (.pr (.var 24) (.int 1)))) (.and (.cmp .lss (.fn 6 (.pr (.var 24) (.int 1))) (.var 26)) (.and (.not (.cmp .lss (.var 24) (.int (-1)))) (.and (.not (.cmp .lss (.int 200) (.var 34))) (.and (.not (.cmp .lss (.var 34) (.int 1))) (.and (.not (.cmp .lss (.var 26) (.var 31))) (.and (.not (.cmp .lss (.var 31) (.int 0))) (.and (.fn 108 (.var 28)) (.and (.fn 107 (.var 28)) (.and (.fn 106 (.pr (.var 25) (.var 28))) (.and (.not (.cmp .lss (.var 29) (.var 26))) (.and (.not (.cmp .lss (.var 27) (.var 26))) (.and (.cmp .eql (.var 26) (.fn 0 (.var 28))) (.and (.not (.cmp .lss (.int 200) (.var 26))) (.and (.not (.cmp .lss (.var 26) (.int 1))) (.and (.not (.cmp .lss (.int 9) (.var 1))) (.and (.not (.cmp .lss (.var 1) (.int 1))) (.and (.not (.cmp .lss (.int 200) (.var 0))) (.not (.cmp .lss (.var 0) (.int 0)))))))))))))))))))))))))))))))))) (.fn 103 (.pr (.var 25) (.pr (.var 31) (.fn 1 (.pr (.var 28) (.var 24)))))))
theorem fact65 (ρ : Env) : E.B ρ f65 = true := by
  unfold f65
  rw [sm_B_imp]
  simp only [sm_B_and]
  rintro ⟨p0, p1, p2, p3, p4, p5, p6, p7, p8, p9, p10, p11, p12, p13, p14, p15, p16, p17, p18, p19, p20, p21, p22, p23, p24, p25, p26, p27, p28, p29, p30, p31⟩
  obtain ⟨v0, ev0, qv0⟩ := cs_i64 (E.I ρ (.var 31) - E.I ρ (.int 1))
  have ew0 : E.I ρ (.ar .sub .i64 (.var 31) (.int 1)) = v0 := ev0
  first
    | exact t103_of p22 p20 (by first | omega | (simp only [smA, ints_len, ew0] at *; first | done | omega)) (by first | omega | (simp only [smA, ints_len, ew0] at *; first | done | omega)) (by first | omega | (simp only [smA, ints_len, ew0] at *; first | done | omega))
    | exact t103_one (by simp only [ints_app, ints_cons, ints_nil, ints_sub0, List.nil_append, List.append_nil, List.cons_append, sm_I_int]) (by first | omega | (simp only [smA, ints_len, ew0] at *; first | done | omega)) (by first | omega | (simp only [smA, ints_len, ew0] at *; first | done | omega))
noncomputable def f66 : E := (.imp (.and (.cmp .eql (.ar .rem .i64 (.var 8) (.var 1)) (.int 0)) (.and (.not (.cmp .lss (.int 9) (.var 1))) (.and (.not (.cmp .lss (.int 200) (.var 0))) (.and (.not (.cmp .lss (.var 0) (.int 0))) (.and (.not (.cmp .lss (.var 13) (.var 10))) (.and (.not (.cmp .lss (.var 11) (.var 10))) (.and (.cmp .eql (.var 10) (.fn 0 (.var 9))) (.and (.cmp .eql (.var 10) (.fn 7 (.pr (.var 8) (.int 1)))) (.and (.not (.cmp .lss (.fn 6 (.pr (.var 0) (.int 1))) (.var 8))) (.and (.not (.cmp .lss (.var 8) (.int 2))) (.and (.not (.cmp .lss (.int 200) (.var 10))) (.not (.cmp .lss (.var 10) (.int 1)))))))))))))) (.not (.cmp .lss (.ar .add .i64 (.var 8) (.int 1)) (.int 2))))
theorem fact66 (ρ : Env) : E.B ρ f66 = true := by
  unfold f66
  rw [sm_B_imp]
  simp only [sm_B_and]
  rintro ⟨p0, p1, p2, p3, p4, p5, p6, p7, p8, p9, p10, p11⟩
  clear p0
  try simp only [smA, smW] at *
  try generalize E.I ρ (.var 1) = a0 at *
  try generalize E.I ρ (.var 0) = a1 at *
  try generalize E.I ρ (.var 13) = a2 at *
  try generalize E.I ρ (.var 10) = a3 at *
  try generalize E.I ρ (.var 11) = a4 at *
  have na5 := fn0_nn (ρ := ρ) (.var 9)
  try generalize E.I ρ (.fn 0 (.var 9)) = a5 at *
  try generalize E.I ρ (.var 8) = a6 at *
  obtain ⟨a7, ea7, qa7⟩ := cs_i64 (a6 + (1))
  try simp only [ea7] at *
  omega
noncomputable def f67 : E := (.imp (.and (.not (.cmp .lss (.var 0) (.var 8))) (.and (.not (.cmp .eql (.ar .rem .i64 (.var 8) (.var 1)) (.int 0))) (.and (.not (.cmp .lss (.var 15) (.int 0))) (.and (.not (.cmp .lss (.var 15) (.fn 6 (.pr (.var 10) (.int 1))))) (.and (.not (.cmp .lss (.int 9) (.var 1))) (.and (.not (.cmp .lss (.var 1) (.int 1))) (.and (.not (.cmp .lss (.int 200) (.var 0))) (.and (.not (.cmp .lss (.var 0) (.int 0))) (.and (.fn 101 (.pr (.var 14) (.var 10))) (.and (.fn 100 (.pr (.var 12) (.pr (.var 10) (.var 1)))) (.and (.fn 100 (.pr (.var 9) (.pr (.var 10) (.var 1)))) (.and (.not (.cmp .lss (.var 13) (.var 10))) (.and (.not (.cmp .lss (.var 11) (.var 10))) (.and (.cmp .eql (.var 10) (.fn 0 (.var 9))) (.and (.cmp .eql (.var 10) (.fn 7 (.pr (.var 8) (.int 1)))) (.and (.not (.cmp .lss (.fn 6 (.pr (.var 0) (.int 1))) (.var 8))) (.and (.not (.cmp .lss (.var 8) (.int 2))) (.and (.not (.cmp .lss (.int 200) (.var 10))) (.not (.cmp .lss (.var 10) (.int 1))))))))))))))))))))) (.not (.fn 33 (.pr (.var 14) (.var 8)))))
theorem fact67 (ρ : Env) : E.B ρ f67 = true := by
  unfold f67
  rw [sm_B_imp]
  simp only [sm_B_and]
  rintro ⟨p0, p1, p2, p3, p4, p5, p6, p7, p8, p9, p10, p11, p12, p13, p14, p15, p16, p17, p18⟩
  rw [sm_B_not]
  exact t101_no p8 (by first | omega | (simp only [smA, ints_len] at *; first | done | omega)) (by first | omega | (simp only [smA, ints_len] at *; first | done | omega))
noncomputable def f68 : E := (.imp (.cmp .eql (.var 26) (.int 0)) (.cmp .eql (.fn 7 (.pr (.int 1) (.ar .add .i64 (.var 26) (.int 1)))) (.int 0)))
theorem fact68 (ρ : Env) : E.B ρ f68 = true := by
  unfold f68
  rw [sm_B_imp]
  intro p0
  try simp only [smA, smW] at *
  try generalize E.I ρ (.var 26) = a0 at *
  obtain ⟨a1, ea1, qa1⟩ := cs_i64 (a0 + (1))
  try simp only [ea1] at *
  omega
noncomputable def f69 : E := (.imp (.and (.cmp .eql (.var 31) (.fn 7 (.pr (.var 26) (.int 1)))) (.and (.not (.cmp .lss (.var 29) (.var 26))) (.and (.not (.cmp .lss (.var 27) (.var 26))) (.and (.cmp .eql (.var 26) (.fn 0 (.var 28))) (.and (.not (.cmp .lss (.int 200) (.var 26))) (.and (.not (.cmp .lss (.var 26) (.int 1))) (.cmp .eql (.var 24) (.fn 7 (.pr (.var 26) (.int 1)))))))))) (.not (.cmp .lss (.var 27) (.var 31))))
theorem fact69 (ρ : Env) : E.B ρ f69 = true := by
  unfold f69
  rw [sm_B_imp]
  simp only [sm_B_and]
  rintro ⟨p0, p1, p2, p3, p4, p5, p6⟩
  try simp only [smA, smW] at *
  try generalize E.I ρ (.var 31) = a0 at *
  try generalize E.I ρ (.var 26) = a1 at *
  try generalize E.I ρ (.var 29) = a2 at *
  try generalize E.I ρ (.var 27) = a3 at *
  have na4 := fn0_nn (ρ := ρ) (.var 28)
  try generalize E.I ρ (.fn 0 (.var 28)) = a4 at *
  try generalize E.I ρ (.var 24) = a5 at *
  omega
noncomputable def f70 : E := (.imp (.and (.cmp .eql (.var 31) (.fn 7 (.pr (.var 26) (.int 1)))) (.and (.not (.cmp .lss (.var 29) (.var 26))) (.and (.not (.cmp .lss (.var 27) (.var 26))) (.and (.cmp .eql (.var 26) (.fn 0 (.var 28))) (.and (.not (.cmp .lss (.int 200) (.var 26))) (.and (.not (.cmp .lss (.var 26) (.int 1))) (.cmp .eql (.var 24) (.fn 7 (.pr (.var 26) (.int 1)))))))))) (.not (.cmp .lss (.var 26) (.ar .add .i64 (.var 31) (.int 1)))))
theorem fact70 (ρ : Env) : E.B ρ f70 = true := by
  unfold f70
  rw [sm_B_imp]
  simp only [sm_B_and]
  rintro ⟨p0, p1, p2, p3, p4, p5, p6⟩
  try simp only [smA, smW] at *
  try generalize E.I ρ (.var 31) = a0 at *
  try generalize E.I ρ (.var 26) = a1 at *
  try generalize E.I ρ (.var 29) = a2 at *
  try generalize E.I ρ (.var 27) = a3 at *
  have na4 := fn0_nn (ρ := ρ) (.var 28)
  try generalize E.I ρ (.fn 0 (.var 28)) = a4 at *
  try generalize E.I ρ (.var 24) = a5 at *
  obtain ⟨a6, ea6, qa6⟩ := cs_i64 (a0 + (1))
  try simp only [ea6] at *
  omega
noncomputable def f71 : E := (.imp (.and (.not (.cmp .lss (.var 24) (.int 0))) (.and (.not (.cmp .lss (.var 35) (.var 34))) (.and (.cmp .eql (.var 34) (.fn 0 (.var 33))) (.and (.cmp .eql (.fn 6 (.pr (.var 34) (.fn 6 (.pr (.var 24) (.int 1))))) (.var 26)) (.and (.not (.cmp .lss (.var 27) (.var 32))) (.and (.not (.cmp .lss (.var 32) (.var 31))) (.and (.cmp .eql (.var 31) (.fn 6 (.pr (.var 24) (.int 1)))) (.and (.cmp .lss (.fn 6 (.pr (.var 24) (.int 1))) (.var 26)) (.and (.not (.cmp .lss (.var 24) (.int (-1)))) (.and (.not (.cmp .lss (.int 200) (.var 34))) (.and (.not (.cmp .lss (.var 34) (.int 1))) (.and (.not (.cmp .lss (.var 26) (.var 31))) (.and (.not (.cmp .lss (.var 31) (.int 0))) (.and (.not (.cmp .lss (.var 29) (.var 26))) (.and (.not (.cmp .lss (.var 27) (.var 26))) (.and (.cmp .eql (.var 26) (.fn 0 (.var 28))) (.and (.not (.cmp .lss (.int 200) (.var 26))) (.not (.cmp .lss (.var 26) (.int 1)))))))))))))))))))) (.not (.cmp .eql (.var 31) (.int 0))))
theorem fact71 (ρ : Env) : E.B ρ f71 = true := by
  unfold f71
  rw [sm_B_imp]
  simp only [sm_B_and]
  rintro ⟨p0, p1, p2, p3, p4, p5, p6, p7, p8, p9, p10, p11, p12, p13, p14, p15, p16, p17⟩
  try simp only [smA, smW] at *
  try generalize E.I ρ (.var 24) = a0 at *
  try generalize E.I ρ (.var 35) = a1 at *
  try generalize E.I ρ (.var 34) = a2 at *
  have na3 := fn0_nn (ρ := ρ) (.var 33)
  try generalize E.I ρ (.fn 0 (.var 33)) = a3 at *
  try generalize E.I ρ (.var 26) = a4 at *
  try generalize E.I ρ (.var 27) = a5 at *
  try generalize E.I ρ (.var 32) = a6 at *
  try generalize E.I ρ (.var 31) = a7 at *
  try generalize E.I ρ (.var 29) = a8 at *
  have na9 := fn0_nn (ρ := ρ) (.var 28)
  try generalize E.I ρ (.fn 0 (.var 28)) = a9 at *
  omega
noncomputable def f72 : E := (.imp (.and (.not (.cmp .lss (.var 24) (.int 0))) (.and (.not (.cmp .eql (.var 31) (.int 0))) (.and (.not (.cmp .lss (.fn 1 (.pr (.var 28) (.var 24))) (.int 1))) (.and (.not (.cmp .lss (.int 4096) (.fn 1 (.pr (.var 28) (.var 24))))) (.and (.fn 33 (.pr (.var 30) (.fn 1 (.pr (.var 28) (.var 24))))) (.and (.fn 105 (.pr (.var 33) (.pr (.var 28) (.fn 6 (.pr (.var 24) (.int 1)))))) (.and (.fn 104 (.pr (.var 30) (.pr (.var 28) (.fn 6 (.pr (.var 24) (.int 1)))))) (.and (.not (.cmp .lss (.var 35) (.var 34))) (.and (.cmp .eql (.var 34) (.fn 0 (.var 33))) (.and (.cmp .eql (.fn 6 (.pr (.var 34) (.fn 6 (.pr (.var 24) (.int 1))))) (.var 26)) (.and (.not (.cmp .lss (.var 27) (.var 32))) (.and (.not (.cmp .lss (.var 32) (.var 31))) (.and (.cmp .eql (.var 31) (.fn 6 (.pr (.var 24) (.int 1)))) (.and (.cmp .lss (.fn 6 (.pr (.var 24) (.int 1))) (.var 26)) (.and (.not (.cmp .lss (.var 24) (.int (-1)))) (.and (.not (.cmp .lss (.int 200) (.var 34))) (.and (.not (.cmp .lss (.var 34) (.int 1))) (.and (.not (.cmp .lss (.var 26) (.var 31))) (.and (.not (.cmp .lss (.var 31) (.int 0))) (.and (.fn 108 (.var 28)) (.and (.fn 107 (.var 28)) (.and (.fn 106 (.pr (.var 25) (.var 28))) (.and (.not (.cmp .lss (.var 29) (.var 26))) (.and (.not (.cmp .lss (.var 27) (.var 26))) (.and (.cmp .eql (.var 26) (.fn 0 (.var 28))) (.and (.not (.cmp .lss (.int 200) (.var 26))) (.and (.not (.cmp .lss (.var 26) (.int 1))) (.and (.not (.cmp .lss (.int 9) (.var 1))) (.and (.not (.cmp .lss (.var 1) (.int 1))) (.and (.not (.cmp .lss (.int 200) (.var 0))) (.not (.cmp .lss (.var 0) (.int 0))))))))))))))))))))))))))))))))) (.fn 103 (.pr (.var 25) (.pr (.var 31) (.fn 1 (.pr (.var 28) (.var 24)))))))
theorem fact72 (ρ : Env) : E.B ρ f72 = true := by
  unfold f72
  rw [sm_B_imp]
  simp only [sm_B_and]
  rintro ⟨p0, p1, p2, p3, p4, p5, p6, p7, p8, p9, p10, p11, p12, p13, p14, p15, p16, p17, p18, p19, p20, p21, p22, p23, p24, p25, p26, p27, p28, p29, p30⟩
  first
    | exact t103_of p21 p19 (by first | omega | (simp only [smA, ints_len] at *; first | done | omega)) (by first | omega | (simp only [smA, ints_len] at *; first | done | omega)) (by first | omega | (simp only [smA, ints_len] at *; first | done | omega))
    | exact t103_one (by simp only [ints_app, ints_cons, ints_nil, ints_sub0, List.nil_append, List.append_nil, List.cons_append, sm_I_int]) (by first | omega | (simp only [smA, ints_len] at *; first | done | omega)) (by first | omega | (simp only [smA, ints_len] at *; first | done | omega))
noncomputable def f73 : E := (.imp (.and (.not (.cmp .lss (.var 0) (.var 8))) (.and (.cmp .eql (.ar .rem .i64 (.var 8) (.var 1)) (.int 0)) (.and (.not (.cmp .lss (.int 9) (.var 1))) (.and (.not (.cmp .lss (.int 200) (.var 0))) (.and (.not (.cmp .lss (.var 0) (.int 0))) (.and (.not (.cmp .lss (.var 13) (.var 10))) (.and (.not (.cmp .lss (.var 11) (.var 10))) (.and (.cmp .eql (.var 10) (.fn 0 (.var 9))) (.and (.cmp .eql (.var 10) (.fn 7 (.pr (.var 8) (.int 1)))) (.and (.not (.cmp .lss (.fn 6 (.pr (.var 0) (.int 1))) (.var 8))) (.and (.not (.cmp .lss (.var 8) (.int 2))) (.and (.not (.cmp .lss (.int 200) (.var 10))) (.not (.cmp .lss (.var 10) (.int 1))))))))))))))) (.not (.cmp .lss (.fn 6 (.pr (.var 0) (.int 1))) (.ar .add .i64 (.var 8) (.int 1)))))
theorem fact73 (ρ : Env) : E.B ρ f73 = true := by
  unfold f73
  rw [sm_B_imp]
  simp only [sm_B_and]
  rintro ⟨p0, p1, p2, p3, p4, p5, p6, p7, p8, p9, p10, p11, p12⟩
  clear p1
  try simp only [smA, smW] at *
  try generalize E.I ρ (.var 0) = a0 at *
  try generalize E.I ρ (.var 8) = a1 at *
  try generalize E.I ρ (.var 1) = a2 at *
  try generalize E.I ρ (.var 13) = a3 at *
  try generalize E.I ρ (.var 10) = a4 at *
  try generalize E.I ρ (.var 11) = a5 at *
  have na6 := fn0_nn (ρ := ρ) (.var 9)
  try generalize E.I ρ (.fn 0 (.var 9)) = a6 at *
  obtain ⟨a7, ea7, qa7⟩ := cs_i64 (a1 + (1))
  try simp only [ea7] at *
  omega
noncomputable def f74 : E := (.imp (.and (.not (.cmp .lss (.int 200) (.var 0))) (.and (.not (.cmp .lss (.var 0) (.int 0))) (.and (.not (.cmp .lss (.var 13) (.var 10))) (.and (.not (.cmp .lss (.var 11) (.var 10))) (.and (.cmp .eql (.var 10) (.fn 0 (.var 9))) (.and (.cmp .eql (.var 10) (.fn 7 (.pr (.var 8) (.int 1)))) (.and (.not (.cmp .lss (.fn 6 (.pr (.var 0) (.int 1))) (.var 8))) (.and (.not (.cmp .lss (.var 8) (.int 2))) (.and (.not (.cmp .lss (.int 200) (.var 10))) (.not (.cmp .lss (.var 10) (.int 1)))))))))))) (.not (.cmp .lss (.ar .add .i64 (.var 8) (.int 1)) (.int 2))))
theorem fact74 (ρ : Env) : E.B ρ f74 = true := by
  unfold f74
  rw [sm_B_imp]
  simp only [sm_B_and]
  rintro ⟨p0, p1, p2, p3, p4, p5, p6, p7, p8, p9⟩
  try simp only [smA, smW] at *
  try generalize E.I ρ (.var 0) = a0 at *
  try generalize E.I ρ (.var 13) = a1 at *
  try generalize E.I ρ (.var 10) = a2 at *
  try generalize E.I ρ (.var 11) = a3 at *
  have na4 := fn0_nn (ρ := ρ) (.var 9)
  try generalize E.I ρ (.fn 0 (.var 9)) = a4 at *
  try generalize E.I ρ (.var 8) = a5 at *
  obtain ⟨a6, ea6, qa6⟩ := cs_i64 (a5 + (1))
  try simp only [ea6] at *
  omega
noncomputable def f75 : E := (.imp (.and (.fn 101 (.pr (.var 14) (.var 10))) (.and (.fn 100 (.pr (.var 12) (.pr (.var 10) (.var 1)))) (.and (.fn 100 (.pr (.var 9) (.pr (.var 10) (.var 1)))) (.and (.not (.cmp .lss (.var 1) (.int 1))) (.and (.cmp .lss (.var 0) (.var 8)) (.and (.not (.cmp .lss (.var 15) (.int 0))) (.and (.not (.cmp .lss (.var 15) (.var 10))) (.and (.not (.cmp .lss (.int 9) (.var 1))) (.and (.not (.cmp .lss (.int 200) (.var 0))) (.and (.not (.cmp .lss (.var 0) (.int 0))) (.and (.not (.cmp .lss (.var 13) (.var 10))) (.and (.not (.cmp .lss (.var 11) (.var 10))) (.and (.cmp .eql (.var 10) (.fn 0 (.var 9))) (.and (.cmp .eql (.var 10) (.fn 7 (.pr (.var 8) (.int 1)))) (.and (.not (.cmp .lss (.fn 6 (.pr (.var 0) (.int 1))) (.var 8))) (.and (.not (.cmp .lss (.var 8) (.int 2))) (.and (.not (.cmp .lss (.int 200) (.var 10))) (.not (.cmp .lss (.var 10) (.int 1)))))))))))))))))))) (.cmp .eql (.var 10) (.fn 0 (.var 12))))
theorem fact75 (ρ : Env) : E.B ρ f75 = true := by
  unfold f75
  rw [sm_B_imp]
  simp only [sm_B_and]
  rintro ⟨p0, p1, p2, p3, p4, p5, p6, p7, p8, p9, p10, p11, p12, p13, p14, p15, p16, p17⟩
  have g0 := t100_len p1
  have g1 := t100_len p2
  clear p0 p1 p2
  try simp only [smA, smW] at *
  try generalize E.I ρ (.var 1) = a0 at *
  try generalize E.I ρ (.var 0) = a1 at *
  try generalize E.I ρ (.var 8) = a2 at *
  try generalize E.I ρ (.var 15) = a3 at *
  try generalize E.I ρ (.var 10) = a4 at *
  try generalize E.I ρ (.var 13) = a5 at *
  try generalize E.I ρ (.var 11) = a6 at *
  have na7 := fn0_nn (ρ := ρ) (.var 9)
  try generalize E.I ρ (.fn 0 (.var 9)) = a7 at *
  have na8 := fn0_nn (ρ := ρ) (.var 12)
  try generalize E.I ρ (.fn 0 (.var 12)) = a8 at *
  omega
noncomputable def f76 : E := (.imp (.cmp .eql (.var 24) (.int 0)) (.cmp .eql (.ar .sub .i64 (.var 24) (.int 1)) (.int (-1))))
theorem fact76 (ρ : Env) : E.B ρ f76 = true := by
  unfold f76
  rw [sm_B_imp]
  intro p0
  try simp only [smA, smW] at *
  try generalize E.I ρ (.var 24) = a0 at *
  obtain ⟨a1, ea1, qa1⟩ := cs_i64 (a0 - (1))
  try simp only [ea1] at *
  omega
noncomputable def f77 : E := (.imp (.and (.cmp .eql (.var 31) (.fn 7 (.pr (.var 26) (.int 1)))) (.and (.cmp .eql (.var 27) (.ar .add .i64 (.var 31) (.int 1))) (.and (.not (.cmp .lss (.var 29) (.var 26))) (.and (.not (.cmp .lss (.var 27) (.var 26))) (.and (.cmp .eql (.var 26) (.fn 0 (.var 28))) (.and (.not (.cmp .lss (.int 200) (.var 26))) (.and (.not (.cmp .lss (.var 26) (.int 1))) (.cmp .eql (.var 24) (.fn 7 (.pr (.var 26) (.int 1))))))))))) (.not (.cmp .lss (.var 26) (.var 31))))
theorem fact77 (ρ : Env) : E.B ρ f77 = true := by
  unfold f77
  rw [sm_B_imp]
  simp only [sm_B_and]
  rintro ⟨p0, p1, p2, p3, p4, p5, p6, p7⟩
  try simp only [smA, smW] at *
  try generalize E.I ρ (.var 31) = a0 at *
  try generalize E.I ρ (.var 26) = a1 at *
  try generalize E.I ρ (.var 27) = a2 at *
  try generalize E.I ρ (.var 29) = a3 at *
  have na4 := fn0_nn (ρ := ρ) (.var 28)
  try generalize E.I ρ (.fn 0 (.var 28)) = a4 at *
  try generalize E.I ρ (.var 24) = a5 at *
  obtain ⟨a6, ea6, qa6⟩ := cs_i64 (a0 + (1))
  try simp only [ea6] at *
  omega
noncomputable def f78 : E := (.imp (.and (.cmp .eql (.var 31) (.fn 7 (.pr (.var 26) (.int 1)))) (.and (.not (.cmp .lss (.var 29) (.var 26))) (.and (.not (.cmp .lss (.var 27) (.var 26))) (.and (.cmp .eql (.var 26) (.fn 0 (.var 28))) (.and (.not (.cmp .lss (.int 200) (.var 26))) (.and (.not (.cmp .lss (.var 26) (.int 1))) (.cmp .eql (.var 24) (.fn 7 (.pr (.var 26) (.int 1)))))))))) (.not (.cmp .lss (.var 26) (.var 31))))
theorem fact78 (ρ : Env) : E.B ρ f78 = true := by
  unfold f78
  rw [sm_B_imp]
  simp only [sm_B_and]
  rintro ⟨p0, p1, p2, p3, p4, p5, p6⟩
  try simp only [smA, smW] at *
  try generalize E.I ρ (.var 31) = a0 at *
  try generalize E.I ρ (.var 26) = a1 at *
  try generalize E.I ρ (.var 29) = a2 at *
  try generalize E.I ρ (.var 27) = a3 at *
  have na4 := fn0_nn (ρ := ρ) (.var 28)
  try generalize E.I ρ (.fn 0 (.var 28)) = a4 at *
  try generalize E.I ρ (.var 24) = a5 at *
  omega
noncomputable def f79 : E := (.imp (.and (.fn 105 (.pr (.var 33) (.pr (.var 28) (.fn 6 (.pr (.var 24) (.int 1)))))) (.and (.fn 104 (.pr (.var 30) (.pr (.var 28) (.fn 6 (.pr (.var 24) (.int 1)))))) (.and (.fn 108 (.var 28)) (.and (.fn 107 (.var 28)) (.and (.fn 106 (.pr (.var 25) (.var 28))) (.and (.not (.cmp .lss (.var 1) (.int 1))) (.and (.not (.cmp .lss (.var 0) (.int 0))) (.and (.not (.cmp .lss (.var 24) (.int 0))) (.and (.not (.cmp .lss (.var 35) (.var 34))) (.and (.cmp .eql (.var 34) (.fn 0 (.var 33))) (.and (.cmp .eql (.fn 6 (.pr (.var 34) (.fn 6 (.pr (.var 24) (.int 1))))) (.var 26)) (.and (.not (.cmp .lss (.var 27) (.var 32))) (.and (.not (.cmp .lss (.var 32) (.var 31))) (.and (.cmp .eql (.var 31) (.fn 6 (.pr (.var 24) (.int 1)))) (.and (.cmp .lss (.fn 6 (.pr (.var 24) (.int 1))) (.var 26)) (.and (.not (.cmp .lss (.var 24) (.int (-1)))) (.and (.not (.cmp .lss (.int 200) (.var 34))) (.and (.not (.cmp .lss (.var 34) (.int 1))) (.and (.not (.cmp .lss (.var 26) (.var 31))) (.and (.not (.cmp .lss (.var 31) (.int 0))) (.and (.not (.cmp .lss (.var 29) (.var 26))) (.and (.not (.cmp .lss (.var 27) (.var 26))) (.and (.cmp .eql (.var 26) (.fn 0 (.var 28))) (.and (.not (.cmp .lss (.int 200) (.var 26))) (.not (.cmp .lss (.var 26) (.int 1))))))))))))))))))))))))))) (.cmp .eql (.fn 1 (.pr (.var 25) (.ar .sub .i64 (.var 31) (.int 1)))) (.fn 1 (.pr (.var 28) (.var 24)))))
theorem fact79 (ρ : Env) : E.B ρ f79 = true := by
  unfold f79
  rw [sm_B_imp]
  simp only [sm_B_and]
  rintro ⟨p0, p1, p2, p3, p4, p5, p6, p7, p8, p9, p10, p11, p12, p13, p14, p15, p16, p17, p18, p19, p20, p21, p22, p23, p24⟩
  have g0 := t107_nth p3 (i := (.var 24))
  have g1 := t106_nth p4 (i := (.ar .sub .i64 (.var 31) (.int 1))) (j := (.var 24))
  obtain ⟨v0, ev0, qv0⟩ := cs_i64 (E.I ρ (.var 31) - E.I ρ (.int 1))
  have ew0 : E.I ρ (.ar .sub .i64 (.var 31) (.int 1)) = v0 := ev0
  try simp only [ew0] at g0 g1
  clear p0 p1 p2 p3 p4
  try simp only [smA, smW] at *
  try generalize E.I ρ (.var 1) = a0 at *
  try generalize E.I ρ (.var 0) = a1 at *
  try generalize E.I ρ (.var 24) = a2 at *
  try generalize E.I ρ (.var 35) = a3 at *
  try generalize E.I ρ (.var 34) = a4 at *
  have na5 := fn0_nn (ρ := ρ) (.var 33)
  try generalize E.I ρ (.fn 0 (.var 33)) = a5 at *
  try generalize E.I ρ (.var 26) = a6 at *
  try generalize E.I ρ (.var 27) = a7 at *
  try generalize E.I ρ (.var 32) = a8 at *
  try generalize E.I ρ (.var 31) = a9 at *
  try generalize E.I ρ (.var 29) = a10 at *
  have na11 := fn0_nn (ρ := ρ) (.var 28)
  try generalize E.I ρ (.fn 0 (.var 28)) = a11 at *
  try generalize E.I ρ (.fn 1 (.pr (.var 25) (.ar .sub .i64 (.var 31) (.int 1)))) = a12 at *
  try generalize E.I ρ (.fn 1 (.pr (.var 28) (.var 24))) = a13 at *
  omega
noncomputable def f80 : E := (.imp (.and (.not (.cmp .lss (.var 24) (.int 0))) (.and (.cmp .eql (.fn 1 (.pr (.var 25) (.ar .sub .i64 (.var 31) (.int 1)))) (.fn 1 (.pr (.var 28) (.var 24)))) (.and (.not (.cmp .lss (.var 35) (.var 34))) (.and (.cmp .eql (.var 34) (.fn 0 (.var 33))) (.and (.cmp .eql (.fn 6 (.pr (.var 34) (.fn 6 (.pr (.var 24) (.int 1))))) (.var 26)) (.and (.not (.cmp .lss (.var 27) (.var 32))) (.and (.not (.cmp .lss (.var 32) (.var 31))) (.and (.cmp .eql (.var 31) (.fn 6 (.pr (.var 24) (.int 1)))) (.and (.cmp .lss (.fn 6 (.pr (.var 24) (.int 1))) (.var 26)) (.and (.not (.cmp .lss (.var 24) (.int (-1)))) (.and (.not (.cmp .lss (.int 200) (.var 34))) (.and (.not (.cmp .lss (.var 34) (.int 1))) (.and (.not (.cmp .lss (.var 26) (.var 31))) (.and (.not (.cmp .lss (.var 31) (.int 0))) (.and (.not (.cmp .lss (.var 29) (.var 26))) (.and (.not (.cmp .lss (.var 27) (.var 26))) (.and (.cmp .eql (.var 26) (.fn 0 (.var 28))) (.and (.not (.cmp .lss (.int 200) (.var 26))) (.not (.cmp .lss (.var 26) (.int 1))))))))))))))))))))) (.not (.cmp .lss (.var 31) (.int 1))))
theorem fact80 (ρ : Env) : E.B ρ f80 = true := by
  unfold f80
  rw [sm_B_imp]
  simp only [sm_B_and]
  rintro ⟨p0, p1, p2, p3, p4, p5, p6, p7, p8, p9, p10, p11, p12, p13, p14, p15, p16, p17, p18⟩
  try simp only [smA, smW] at *
  try generalize E.I ρ (.var 24) = a0 at *
  try generalize E.I ρ (.fn 1 (.pr (.var 25) (.ar .sub .i64 (.var 31) (.int 1)))) = a1 at *
  try generalize E.I ρ (.fn 1 (.pr (.var 28) (.var 24))) = a2 at *
  try generalize E.I ρ (.var 35) = a3 at *
  try generalize E.I ρ (.var 34) = a4 at *
  have na5 := fn0_nn (ρ := ρ) (.var 33)
  try generalize E.I ρ (.fn 0 (.var 33)) = a5 at *
  try generalize E.I ρ (.var 26) = a6 at *
  try generalize E.I ρ (.var 27) = a7 at *
  try generalize E.I ρ (.var 32) = a8 at *
  try generalize E.I ρ (.var 31) = a9 at *
  try generalize E.I ρ (.var 29) = a10 at *
  have na11 := fn0_nn (ρ := ρ) (.var 28)
  try generalize E.I ρ (.fn 0 (.var 28)) = a11 at *
  omega
noncomputable def f81 : E := (.imp (.and (.cmp .eql (.ar .rem .i64 (.var 8) (.var 1)) (.int 0)) (.and (.not (.cmp .lss (.int 9) (.var 1))) (.and (.not (.cmp .lss (.int 200) (.var 0))) (.and (.not (.cmp .lss (.var 0) (.int 0))) (.and (.not (.cmp .lss (.var 13) (.var 10))) (.and (.not (.cmp .lss (.var 11) (.var 10))) (.and (.cmp .eql (.var 10) (.fn 0 (.var 9))) (.and (.cmp .eql (.var 10) (.fn 7 (.pr (.var 8) (.int 1)))) (.and (.not (.cmp .lss (.fn 6 (.pr (.var 0) (.int 1))) (.var 8))) (.and (.not (.cmp .lss (.var 8) (.int 2))) (.and (.not (.cmp .lss (.int 200) (.var 10))) (.not (.cmp .lss (.var 10) (.int 1)))))))))))))) (.cmp .eql (.fn 6 (.pr (.var 10) (.int 1))) (.fn 7 (.pr (.ar .add .i64 (.var 8) (.int 1)) (.int 1)))))
theorem fact81 (ρ : Env) : E.B ρ f81 = true := by
  unfold f81
  rw [sm_B_imp]
  simp only [sm_B_and]
  rintro ⟨p0, p1, p2, p3, p4, p5, p6, p7, p8, p9, p10, p11⟩
  clear p0
  try simp only [smA, smW] at *
  try generalize E.I ρ (.var 1) = a0 at *
  try generalize E.I ρ (.var 0) = a1 at *
  try generalize E.I ρ (.var 13) = a2 at *
  try generalize E.I ρ (.var 10) = a3 at *
  try generalize E.I ρ (.var 11) = a4 at *
  have na5 := fn0_nn (ρ := ρ) (.var 9)
  try generalize E.I ρ (.fn 0 (.var 9)) = a5 at *
  try generalize E.I ρ (.var 8) = a6 at *
  obtain ⟨a7, ea7, qa7⟩ := cs_i64 (a6 + (1))
  try simp only [ea7] at *
  omega
noncomputable def f82 : E := (.imp (.and (.not (.cmp .lss (.var 0) (.var 8))) (.and (.not (.cmp .lss (.int 200) (.var 0))) (.and (.not (.cmp .lss (.var 0) (.int 0))) (.and (.not (.cmp .lss (.var 13) (.var 10))) (.and (.not (.cmp .lss (.var 11) (.var 10))) (.and (.cmp .eql (.var 10) (.fn 0 (.var 9))) (.and (.cmp .eql (.var 10) (.fn 7 (.pr (.var 8) (.int 1)))) (.and (.not (.cmp .lss (.fn 6 (.pr (.var 0) (.int 1))) (.var 8))) (.and (.not (.cmp .lss (.var 8) (.int 2))) (.and (.not (.cmp .lss (.int 200) (.var 10))) (.not (.cmp .lss (.var 10) (.int 1))))))))))))) (.not (.cmp .lss (.fn 6 (.pr (.var 0) (.int 1))) (.ar .add .i64 (.var 8) (.int 1)))))
theorem fact82 (ρ : Env) : E.B ρ f82 = true := by
  unfold f82
  rw [sm_B_imp]
  simp only [sm_B_and]
  rintro ⟨p0, p1, p2, p3, p4, p5, p6, p7, p8, p9, p10⟩
  try simp only [smA, smW] at *
  try generalize E.I ρ (.var 0) = a0 at *
  try generalize E.I ρ (.var 8) = a1 at *
  try generalize E.I ρ (.var 13) = a2 at *
  try generalize E.I ρ (.var 10) = a3 at *
  try generalize E.I ρ (.var 11) = a4 at *
  have na5 := fn0_nn (ρ := ρ) (.var 9)
  try generalize E.I ρ (.fn 0 (.var 9)) = a5 at *
  obtain ⟨a6, ea6, qa6⟩ := cs_i64 (a1 + (1))
  try simp only [ea6] at *
  omega
noncomputable def f83 : E := (.imp (.and (.cmp .lss (.var 0) (.var 8)) (.and (.not (.cmp .lss (.var 15) (.int 0))) (.and (.not (.cmp .lss (.var 15) (.var 10))) (.and (.not (.cmp .lss (.int 9) (.var 1))) (.and (.not (.cmp .lss (.var 1) (.int 1))) (.and (.not (.cmp .lss (.int 200) (.var 0))) (.and (.not (.cmp .lss (.var 0) (.int 0))) (.and (.fn 101 (.pr (.var 14) (.var 10))) (.and (.fn 100 (.pr (.var 12) (.pr (.var 10) (.var 1)))) (.and (.fn 100 (.pr (.var 9) (.pr (.var 10) (.var 1)))) (.and (.not (.cmp .lss (.var 13) (.var 10))) (.and (.not (.cmp .lss (.var 11) (.var 10))) (.and (.cmp .eql (.var 10) (.fn 0 (.var 9))) (.and (.cmp .eql (.var 10) (.fn 7 (.pr (.var 8) (.int 1)))) (.and (.not (.cmp .lss (.fn 6 (.pr (.var 0) (.int 1))) (.var 8))) (.and (.not (.cmp .lss (.var 8) (.int 2))) (.and (.not (.cmp .lss (.int 200) (.var 10))) (.not (.cmp .lss (.var 10) (.int 1)))))))))))))))))))) (.fn 107 (.var 12)))
theorem fact83 (ρ : Env) : E.B ρ f83 = true := by
  unfold f83
  rw [sm_B_imp]
  simp only [sm_B_and]
  rintro ⟨p0, p1, p2, p3, p4, p5, p6, p7, p8, p9, p10, p11, p12, p13, p14, p15, p16, p17⟩
  first
    | exact t107_of p8 (by first | omega | (simp only [smA, ints_len] at *; first | done | omega))
    | exact t107_of p9 (by first | omega | (simp only [smA, ints_len] at *; first | done | omega))
noncomputable def f84 : E := (.imp (.and (.cmp .eql (.var 31) (.fn 7 (.pr (.var 26) (.int 1)))) (.and (.cmp .eql (.var 27) (.ar .add .i64 (.var 31) (.int 1))) (.and (.not (.cmp .lss (.var 29) (.var 26))) (.and (.not (.cmp .lss (.var 27) (.var 26))) (.and (.cmp .eql (.var 26) (.fn 0 (.var 28))) (.and (.not (.cmp .lss (.int 200) (.var 26))) (.and (.not (.cmp .lss (.var 26) (.int 1))) (.cmp .eql (.var 24) (.fn 7 (.pr (.var 26) (.int 1))))))))))) (.not (.cmp .lss (.int 2147483648) (.var 31))))
theorem fact84 (ρ : Env) : E.B ρ f84 = true := by
  unfold f84
  rw [sm_B_imp]
  simp only [sm_B_and]
  rintro ⟨p0, p1, p2, p3, p4, p5, p6, p7⟩
  try simp only [smA, smW] at *
  try generalize E.I ρ (.var 31) = a0 at *
  try generalize E.I ρ (.var 26) = a1 at *
  try generalize E.I ρ (.var 27) = a2 at *
  try generalize E.I ρ (.var 29) = a3 at *
  have na4 := fn0_nn (ρ := ρ) (.var 28)
  try generalize E.I ρ (.fn 0 (.var 28)) = a4 at *
  try generalize E.I ρ (.var 24) = a5 at *
  obtain ⟨a6, ea6, qa6⟩ := cs_i64 (a0 + (1))
  try simp only [ea6] at *
  omega
noncomputable def f85 : E := (.imp (.and (.cmp .eql (.var 31) (.fn 7 (.pr (.var 26) (.int 1)))) (.and (.not (.cmp .lss (.var 29) (.var 26))) (.and (.not (.cmp .lss (.var 27) (.var 26))) (.and (.cmp .eql (.var 26) (.fn 0 (.var 28))) (.and (.not (.cmp .lss (.int 200) (.var 26))) (.and (.not (.cmp .lss (.var 26) (.int 1))) (.cmp .eql (.var 24) (.fn 7 (.pr (.var 26) (.int 1)))))))))) (.not (.cmp .lss (.fn 7 (.pr (.var 26) (.ar .add .i64 (.var 31) (.int 1)))) (.int 0))))
theorem fact85 (ρ : Env) : E.B ρ f85 = true := by
  unfold f85
  rw [sm_B_imp]
  simp only [sm_B_and]
  rintro ⟨p0, p1, p2, p3, p4, p5, p6⟩
  try simp only [smA, smW] at *
  try generalize E.I ρ (.var 31) = a0 at *
  try generalize E.I ρ (.var 26) = a1 at *
  try generalize E.I ρ (.var 29) = a2 at *
  try generalize E.I ρ (.var 27) = a3 at *
  have na4 := fn0_nn (ρ := ρ) (.var 28)
  try generalize E.I ρ (.fn 0 (.var 28)) = a4 at *
  try generalize E.I ρ (.var 24) = a5 at *
  obtain ⟨a6, ea6, qa6⟩ := cs_i64 (a0 + (1))
  try simp only [ea6] at *
  omega
noncomputable def f86 : E := (.imp (.and (.not (.cmp .lss (.var 24) (.int 0))) (.and (.not (.cmp .lss (.var 35) (.var 34))) (.and (.cmp .eql (.var 34) (.fn 0 (.var 33))) (.and (.cmp .eql (.fn 6 (.pr (.var 34) (.fn 6 (.pr (.var 24) (.int 1))))) (.var 26)) (.and (.not (.cmp .lss (.var 27) (.var 32))) (.and (.not (.cmp .lss (.var 32) (.var 31))) (.and (.cmp .eql (.var 31) (.fn 6 (.pr (.var 24) (.int 1)))) (.and (.cmp .lss (.fn 6 (.pr (.var 24) (.int 1))) (.var 26)) (.and (.not (.cmp .lss (.var 24) (.int (-1)))) (.and (.not (.cmp .lss (.int 200) (.var 34))) (.and (.not (.cmp .lss (.var 34) (.int 1))) (.and (.not (.cmp .lss (.var 26) (.var 31))) (.and (.not (.cmp .lss (.var 31) (.int 0))) (.and (.not (.cmp .lss (.var 29) (.var 26))) (.and (.not (.cmp .lss (.var 27) (.var 26))) (.and (.cmp .eql (.var 26) (.fn 0 (.var 28))) (.and (.not (.cmp .lss (.int 200) (.var 26))) (.not (.cmp .lss (.var 26) (.int 1)))))))))))))))))))) (.not (.cmp .lss (.var 31) (.int 1))))
theorem fact86 (ρ : Env) : E.B ρ f86 = true := by
  unfold f86
  rw [sm_B_imp]
  simp only [sm_B_and]
  rintro ⟨p0, p1, p2, p3, p4, p5, p6, p7, p8, p9, p10, p11, p12, p13, p14, p15, p16, p17⟩
  try simp only [smA, smW] at *
  try generalize E.I ρ (.var 24) = a0 at *
  try generalize E.I ρ (.var 35) = a1 at *
  try generalize E.I ρ (.var 34) = a2 at *
  have na3 := fn0_nn (ρ := ρ) (.var 33)
  try generalize E.I ρ (.fn 0 (.var 33)) = a3 at *
  try generalize E.I ρ (.var 26) = a4 at *
  try generalize E.I ρ (.var 27) = a5 at *
  try generalize E.I ρ (.var 32) = a6 at *
  try generalize E.I ρ (.var 31) = a7 at *
  try generalize E.I ρ (.var 29) = a8 at *
  have na9 := fn0_nn (ρ := ρ) (.var 28)
  try generalize E.I ρ (.fn 0 (.var 28)) = a9 at *
  omega
noncomputable def f87 : E := (.imp (.and (.not (.cmp .lss (.int 200) (.var 0))) (.and (.not (.cmp .lss (.var 0) (.int 0))) (.and (.not (.cmp .lss (.var 13) (.var 10))) (.and (.not (.cmp .lss (.var 11) (.var 10))) (.and (.cmp .eql (.var 10) (.fn 0 (.var 9))) (.and (.cmp .eql (.var 10) (.fn 7 (.pr (.var 8) (.int 1)))) (.and (.not (.cmp .lss (.fn 6 (.pr (.var 0) (.int 1))) (.var 8))) (.and (.not (.cmp .lss (.var 8) (.int 2))) (.and (.not (.cmp .lss (.int 200) (.var 10))) (.not (.cmp .lss (.var 10) (.int 1)))))))))))) (.cmp .eql (.fn 6 (.pr (.var 10) (.int 1))) (.fn 6 (.pr (.fn 6 (.pr (.fn 0 (.fn 4 (.pr (.var 9) (.pr (.int 0) (.int 0))))) (.int 1))) (.fn 0 (.var 9))))))
theorem fact87 (ρ : Env) : E.B ρ f87 = true := by
  unfold f87
  rw [sm_B_imp]
  simp only [sm_B_and]
  rintro ⟨p0, p1, p2, p3, p4, p5, p6, p7, p8, p9⟩
  simp only [smA, smW, ← ints_len, ints_app, ints_cons, ints_nil, ints_sub0, List.length_append, List.length_cons, List.length_nil] at *
  try simp only [smA, smW] at *
  try generalize E.I ρ (.var 0) = a0 at *
  try generalize E.I ρ (.var 13) = a1 at *
  try generalize E.I ρ (.var 10) = a2 at *
  try generalize E.I ρ (.var 11) = a3 at *
  have na4 := fn0_nn (ρ := ρ) (.var 9)
  try generalize E.I ρ (.fn 0 (.var 9)) = a4 at *
  try generalize E.I ρ (.var 8) = a5 at *
  have na6 := fn0_nn (ρ := ρ) (.fn 4 (.pr (.var 9) (.pr (.int 0) (.int 0))))
  try generalize E.I ρ (.fn 0 (.fn 4 (.pr (.var 9) (.pr (.int 0) (.int 0))))) = a6 at *
  omega
noncomputable def f88 : E := (.imp (.and (.not (.cmp .lss (.int 200) (.var 0))) (.and (.not (.cmp .lss (.var 0) (.int 0))) (.and (.not (.cmp .lss (.var 13) (.var 10))) (.and (.not (.cmp .lss (.var 11) (.var 10))) (.and (.cmp .eql (.var 10) (.fn 0 (.var 9))) (.and (.cmp .eql (.var 10) (.fn 7 (.pr (.var 8) (.int 1)))) (.and (.not (.cmp .lss (.fn 6 (.pr (.var 0) (.int 1))) (.var 8))) (.and (.not (.cmp .lss (.var 8) (.int 2))) (.and (.not (.cmp .lss (.int 200) (.var 10))) (.not (.cmp .lss (.var 10) (.int 1)))))))))))) (.cmp .eql (.fn 6 (.pr (.var 10) (.int 1))) (.fn 7 (.pr (.ar .add .i64 (.var 8) (.int 1)) (.int 1)))))
theorem fact88 (ρ : Env) : E.B ρ f88 = true := by
  unfold f88
  rw [sm_B_imp]
  simp only [sm_B_and]
  rintro ⟨p0, p1, p2, p3, p4, p5, p6, p7, p8, p9⟩
  try simp only [smA, smW] at *
  try generalize E.I ρ (.var 0) = a0 at *
  try generalize E.I ρ (.var 13) = a1 at *
  try generalize E.I ρ (.var 10) = a2 at *
  try generalize E.I ρ (.var 11) = a3 at *
  have na4 := fn0_nn (ρ := ρ) (.var 9)
  try generalize E.I ρ (.fn 0 (.var 9)) = a4 at *
  try generalize E.I ρ (.var 8) = a5 at *
  obtain ⟨a6, ea6, qa6⟩ := cs_i64 (a5 + (1))
  try simp only [ea6] at *
  omega
noncomputable def f89 : E := (.imp (.and (.cmp .lss (.var 0) (.var 8)) (.and (.not (.cmp .lss (.var 15) (.int 0))) (.and (.not (.cmp .lss (.var 15) (.var 10))) (.and (.not (.cmp .lss (.int 9) (.var 1))) (.and (.not (.cmp .lss (.var 1) (.int 1))) (.and (.not (.cmp .lss (.int 200) (.var 0))) (.and (.not (.cmp .lss (.var 0) (.int 0))) (.and (.fn 101 (.pr (.var 14) (.var 10))) (.and (.fn 100 (.pr (.var 12) (.pr (.var 10) (.var 1)))) (.and (.fn 100 (.pr (.var 9) (.pr (.var 10) (.var 1)))) (.and (.not (.cmp .lss (.var 13) (.var 10))) (.and (.not (.cmp .lss (.var 11) (.var 10))) (.and (.cmp .eql (.var 10) (.fn 0 (.var 9))) (.and (.cmp .eql (.var 10) (.fn 7 (.pr (.var 8) (.int 1)))) (.and (.not (.cmp .lss (.fn 6 (.pr (.var 0) (.int 1))) (.var 8))) (.and (.not (.cmp .lss (.var 8) (.int 2))) (.and (.not (.cmp .lss (.int 200) (.var 10))) (.not (.cmp .lss (.var 10) (.int 1)))))))))))))))))))) (.fn 108 (.var 12)))
theorem fact89 (ρ : Env) : E.B ρ f89 = true := by
  unfold f89
  rw [sm_B_imp]
  simp only [sm_B_and]
  rintro ⟨p0, p1, p2, p3, p4, p5, p6, p7, p8, p9, p10, p11, p12, p13, p14, p15, p16, p17⟩
  first
    | exact t108_of p8
    | exact t108_of p9
noncomputable def f90 : E := (.imp (.and (.cmp .eql (.var 31) (.fn 7 (.pr (.var 26) (.int 1)))) (.and (.not (.cmp .lss (.var 29) (.var 26))) (.and (.not (.cmp .lss (.var 27) (.var 26))) (.and (.cmp .eql (.var 26) (.fn 0 (.var 28))) (.and (.not (.cmp .lss (.int 200) (.var 26))) (.and (.not (.cmp .lss (.var 26) (.int 1))) (.cmp .eql (.var 24) (.fn 7 (.pr (.var 26) (.int 1)))))))))) (.not (.cmp .lss (.var 26) (.fn 6 (.pr (.ar .add .i64 (.var 31) (.int 1)) (.fn 7 (.pr (.var 26) (.ar .add .i64 (.var 31) (.int 1)))))))))
theorem fact90 (ρ : Env) : E.B ρ f90 = true := by
  unfold f90
  rw [sm_B_imp]
  simp only [sm_B_and]
  rintro ⟨p0, p1, p2, p3, p4, p5, p6⟩
  try simp only [smA, smW] at *
  try generalize E.I ρ (.var 31) = a0 at *
  try generalize E.I ρ (.var 26) = a1 at *
  try generalize E.I ρ (.var 29) = a2 at *
  try generalize E.I ρ (.var 27) = a3 at *
  have na4 := fn0_nn (ρ := ρ) (.var 28)
  try generalize E.I ρ (.fn 0 (.var 28)) = a4 at *
  try generalize E.I ρ (.var 24) = a5 at *
  obtain ⟨a6, ea6, qa6⟩ := cs_i64 (a0 + (1))
  try simp only [ea6] at *
  omega
noncomputable def f91 : E := (.imp (.and (.not (.cmp .lss (.var 24) (.int 0))) (.and (.not (.cmp .lss (.fn 1 (.pr (.var 28) (.var 24))) (.int 1))) (.and (.not (.cmp .lss (.int 4096) (.fn 1 (.pr (.var 28) (.var 24))))) (.and (.fn 33 (.pr (.var 30) (.fn 1 (.pr (.var 28) (.var 24))))) (.and (.fn 105 (.pr (.var 33) (.pr (.var 28) (.fn 6 (.pr (.var 24) (.int 1)))))) (.and (.fn 104 (.pr (.var 30) (.pr (.var 28) (.fn 6 (.pr (.var 24) (.int 1)))))) (.and (.not (.cmp .lss (.var 35) (.var 34))) (.and (.cmp .eql (.var 34) (.fn 0 (.var 33))) (.and (.cmp .eql (.fn 6 (.pr (.var 34) (.fn 6 (.pr (.var 24) (.int 1))))) (.var 26)) (.and (.not (.cmp .lss (.var 27) (.var 32))) (.and (.not (.cmp .lss (.var 32) (.var 31))) (.and (.cmp .eql (.var 31) (.fn 6 (.pr (.var 24) (.int 1)))) (.and (.cmp .lss (.fn 6 (.pr (.var 24) (.int 1))) (.var 26)) (.and (.not (.cmp .lss (.var 24) (.int (-1)))) (.and (.not (.cmp .lss (.int 200) (.var 34))) (.and (.not (.cmp .lss (.var 34) (.int 1))) (.and (.not (.cmp .lss (.var 26) (.var 31))) (.and (.not (.cmp .lss (.var 31) (.int 0))) (.and (.fn 108 (.var 28)) (.and (.fn 107 (.var 28)) (.and (.fn 106 (.pr (.var 25) (.var 28))) (.and (.not (.cmp .lss (.var 29) (.var 26))) (.and (.not (.cmp .lss (.var 27) (.var 26))) (.and (.cmp .eql (.var 26) (.fn 0 (.var 28))) (.and (.not (.cmp .lss (.int 200) (.var 26))) (.and (.not (.cmp .lss (.var 26) (.int 1))) (.and (.not (.cmp .lss (.int 9) (.var 1))) (.and (.not (.cmp .lss (.var 1) (.int 1))) (.and (.not (.cmp .lss (.int 200) (.var 0))) (.not (.cmp .lss (.var 0) (.int 0)))))))))))))))))))))))))))))))) (.fn 103 (.pr (.var 25) (.pr (.var 31) (.fn 1 (.pr (.var 28) (.var 24)))))))
theorem fact91 (ρ : Env) : E.B ρ f91 = true := by
  unfold f91
  rw [sm_B_imp]
  simp only [sm_B_and]
  rintro ⟨p0, p1, p2, p3, p4, p5, p6, p7, p8, p9, p10, p11, p12, p13, p14, p15, p16, p17, p18, p19, p20, p21, p22, p23, p24, p25, p26, p27, p28, p29⟩
  first
    | exact t103_of p20 p18 (by first | omega | (simp only [smA, ints_len] at *; first | done | omega)) (by first | omega | (simp only [smA, ints_len] at *; first | done | omega)) (by first | omega | (simp only [smA, ints_len] at *; first | done | omega))
    | exact t103_one (by simp only [ints_app, ints_cons, ints_nil, ints_sub0, List.nil_append, List.append_nil, List.cons_append, sm_I_int]) (by first | omega | (simp only [smA, ints_len] at *; first | done | omega)) (by first | omega | (simp only [smA, ints_len] at *; first | done | omega))
noncomputable def f92 : E := (.imp (.and (.not (.cmp .lss (.var 0) (.var 8))) (.and (.cmp .eql (.ar .rem .i64 (.var 8) (.var 1)) (.int 0)) (.and (.not (.cmp .lss (.var 15) (.int 0))) (.and (.not (.cmp .lss (.var 15) (.fn 6 (.pr (.var 10) (.int 1))))) (.and (.not (.cmp .lss (.var 16) (.int 0))) (.and (.not (.cmp .lss (.var 16) (.int 1))) (.and (.not (.cmp .lss (.var 17) (.int 0))) (.and (.not (.cmp .lss (.var 17) (.fn 6 (.pr (.var 10) (.int 1))))) (.and (.not (.cmp .lss (.int 9) (.var 1))) (.and (.not (.cmp .lss (.var 1) (.int 1))) (.and (.not (.cmp .lss (.int 200) (.var 0))) (.and (.not (.cmp .lss (.var 0) (.int 0))) (.and (.fn 101 (.pr (.var 14) (.var 10))) (.and (.fn 100 (.pr (.var 12) (.pr (.var 10) (.var 1)))) (.and (.fn 100 (.pr (.var 9) (.pr (.var 10) (.var 1)))) (.and (.not (.cmp .lss (.var 13) (.var 10))) (.and (.not (.cmp .lss (.var 11) (.var 10))) (.and (.cmp .eql (.var 10) (.fn 0 (.var 9))) (.and (.cmp .eql (.var 10) (.fn 7 (.pr (.var 8) (.int 1)))) (.and (.not (.cmp .lss (.fn 6 (.pr (.var 0) (.int 1))) (.var 8))) (.and (.not (.cmp .lss (.var 8) (.int 2))) (.and (.not (.cmp .lss (.int 200) (.var 10))) (.not (.cmp .lss (.var 10) (.int 1))))))))))))))))))))))))) (.fn 100 (.pr (.fn 3 (.pr (.fn 3 (.pr (.fn 4 (.pr (.var 9) (.pr (.int 0) (.int 0)))) (.fn 23 (.pr (.var 8) (.fn 10 (.int 0)))))) (.var 9))) (.pr (.fn 6 (.pr (.var 10) (.int 1))) (.var 1)))))
theorem fact92 (ρ : Env) : E.B ρ f92 = true := by
  unfold f92
  rw [sm_B_imp]
  simp only [sm_B_and]
  rintro ⟨p0, p1, p2, p3, p4, p5, p6, p7, p8, p9, p10, p11, p12, p13, p14, p15, p16, p17, p18, p19, p20, p21, p22⟩
  exact t100_under (id := (.var 8)) p14 (by simp only [ints_app, ints_cons, ints_nil, ints_sub0, List.nil_append, List.append_nil, List.cons_append]) (by first | omega | (simp only [smA, ints_len] at *; first | done | omega)) (by first | omega | (simp only [smA, ints_len] at *; first | done | omega)) (by first | omega | (simp only [smA, ints_len] at *; first | done | omega)) (by rw [sm_B_eql, sm_I_rem, sm_I_int] at p1; exact p1)
noncomputable def f93 : E := (.imp (.and (.not (.cmp .lss (.int 200) (.var 0))) (.and (.not (.cmp .lss (.var 0) (.int 0))) (.and (.not (.cmp .lss (.var 13) (.var 10))) (.and (.not (.cmp .lss (.var 11) (.var 10))) (.and (.cmp .eql (.var 10) (.fn 0 (.var 9))) (.and (.cmp .eql (.var 10) (.fn 7 (.pr (.var 8) (.int 1)))) (.and (.not (.cmp .lss (.fn 6 (.pr (.var 0) (.int 1))) (.var 8))) (.and (.not (.cmp .lss (.var 8) (.int 2))) (.and (.not (.cmp .lss (.int 200) (.var 10))) (.not (.cmp .lss (.var 10) (.int 1)))))))))))) (.cmp .eql (.fn 6 (.pr (.var 10) (.int 1))) (.fn 6 (.pr (.fn 0 (.var 9)) (.int 1)))))
theorem fact93 (ρ : Env) : E.B ρ f93 = true := by
  unfold f93
  rw [sm_B_imp]
  simp only [sm_B_and]
  rintro ⟨p0, p1, p2, p3, p4, p5, p6, p7, p8, p9⟩
  try simp only [smA, smW] at *
  try generalize E.I ρ (.var 0) = a0 at *
  try generalize E.I ρ (.var 13) = a1 at *
  try generalize E.I ρ (.var 10) = a2 at *
  try generalize E.I ρ (.var 11) = a3 at *
  have na4 := fn0_nn (ρ := ρ) (.var 9)
  try generalize E.I ρ (.fn 0 (.var 9)) = a4 at *
  try generalize E.I ρ (.var 8) = a5 at *
  omega
noncomputable def f94 : E := (.imp (.and (.cmp .lss (.var 0) (.var 8)) (.and (.not (.cmp .lss (.int 200) (.var 0))) (.and (.not (.cmp .lss (.var 0) (.int 0))) (.and (.not (.cmp .lss (.var 13) (.var 10))) (.and (.not (.cmp .lss (.var 11) (.var 10))) (.and (.cmp .eql (.var 10) (.fn 0 (.var 9))) (.and (.cmp .eql (.var 10) (.fn 7 (.pr (.var 8) (.int 1)))) (.and (.not (.cmp .lss (.fn 6 (.pr (.var 0) (.int 1))) (.var 8))) (.and (.not (.cmp .lss (.var 8) (.int 2))) (.and (.not (.cmp .lss (.int 200) (.var 10))) (.not (.cmp .lss (.var 10) (.int 1))))))))))))) (.cmp .eql (.ar .sub .i64 (.var 0) (.int 1)) (.fn 7 (.pr (.var 10) (.int 1)))))
theorem fact94 (ρ : Env) : E.B ρ f94 = true := by
  unfold f94
  rw [sm_B_imp]
  simp only [sm_B_and]
  rintro ⟨p0, p1, p2, p3, p4, p5, p6, p7, p8, p9, p10⟩
  try simp only [smA, smW] at *
  try generalize E.I ρ (.var 0) = a0 at *
  try generalize E.I ρ (.var 8) = a1 at *
  try generalize E.I ρ (.var 13) = a2 at *
  try generalize E.I ρ (.var 10) = a3 at *
  try generalize E.I ρ (.var 11) = a4 at *
  have na5 := fn0_nn (ρ := ρ) (.var 9)
  try generalize E.I ρ (.fn 0 (.var 9)) = a5 at *
  obtain ⟨a6, ea6, qa6⟩ := cs_i64 (a0 - (1))
  try simp only [ea6] at *
  omega
noncomputable def f95 : E := (.imp (.and (.cmp .eql (.var 31) (.fn 7 (.pr (.var 26) (.int 1)))) (.and (.not (.cmp .lss (.var 29) (.var 26))) (.and (.not (.cmp .lss (.var 27) (.var 26))) (.and (.cmp .eql (.var 26) (.fn 0 (.var 28))) (.and (.not (.cmp .lss (.int 200) (.var 26))) (.and (.not (.cmp .lss (.var 26) (.int 1))) (.cmp .eql (.var 24) (.fn 7 (.pr (.var 26) (.int 1)))))))))) (.not (.cmp .lss (.int 2147483648) (.fn 6 (.pr (.var 31) (.fn 7 (.pr (.var 26) (.ar .add .i64 (.var 31) (.int 1)))))))))
theorem fact95 (ρ : Env) : E.B ρ f95 = true := by
  unfold f95
  rw [sm_B_imp]
  simp only [sm_B_and]
  rintro ⟨p0, p1, p2, p3, p4, p5, p6⟩
  try simp only [smA, smW] at *
  try generalize E.I ρ (.var 31) = a0 at *
  try generalize E.I ρ (.var 26) = a1 at *
  try generalize E.I ρ (.var 29) = a2 at *
  try generalize E.I ρ (.var 27) = a3 at *
  have na4 := fn0_nn (ρ := ρ) (.var 28)
  try generalize E.I ρ (.fn 0 (.var 28)) = a4 at *
  try generalize E.I ρ (.var 24) = a5 at *
  obtain ⟨a6, ea6, qa6⟩ := cs_i64 (a0 + (1))
  try simp only [ea6] at *
  omega
noncomputable def f96 : E := (.imp (.and (.fn 105 (.pr (.var 33) (.pr (.var 28) (.fn 6 (.pr (.var 24) (.int 1)))))) (.and (.fn 104 (.pr (.var 30) (.pr (.var 28) (.fn 6 (.pr (.var 24) (.int 1)))))) (.and (.not (.cmp .lss (.var 35) (.var 34))) (.and (.cmp .eql (.var 34) (.fn 0 (.var 33))) (.and (.cmp .eql (.fn 6 (.pr (.var 34) (.fn 6 (.pr (.var 24) (.int 1))))) (.var 26)) (.and (.not (.cmp .lss (.var 27) (.var 32))) (.and (.not (.cmp .lss (.var 32) (.var 31))) (.and (.cmp .eql (.var 31) (.fn 6 (.pr (.var 24) (.int 1)))) (.and (.cmp .lss (.fn 6 (.pr (.var 24) (.int 1))) (.var 26)) (.and (.not (.cmp .lss (.var 24) (.int (-1)))) (.and (.not (.cmp .lss (.int 200) (.var 34))) (.and (.not (.cmp .lss (.var 34) (.int 1))) (.and (.not (.cmp .lss (.var 26) (.var 31))) (.and (.not (.cmp .lss (.var 31) (.int 0))) (.and (.fn 108 (.var 28)) (.and (.fn 107 (.var 28)) (.and (.fn 106 (.pr (.var 25) (.var 28))) (.and (.not (.cmp .lss (.var 29) (.var 26))) (.and (.not (.cmp .lss (.var 27) (.var 26))) (.and (.cmp .eql (.var 26) (.fn 0 (.var 28))) (.and (.not (.cmp .lss (.var 26) (.int 1))) (.and (.not (.cmp .lss (.var 1) (.int 1))) (.and (.not (.cmp .lss (.var 0) (.int 0))) (.and (.not (.cmp .lss (.var 24) (.int 0))) (.and (.not (.cmp .lss (.fn 1 (.pr (.var 28) (.var 24))) (.int 1))) (.and (.not (.cmp .lss (.int 4096) (.fn 1 (.pr (.var 28) (.var 24))))) (.and (.fn 33 (.pr (.var 30) (.fn 1 (.pr (.var 28) (.var 24))))) (.and (.cmp .eql (.var 36) (.fn 7 (.pr (.var 31) (.int 1)))) (.not (.cmp .lss (.int 200) (.var 26))))))))))))))))))))))))))))))) (.not (.cmp .lss (.var 36) (.int 0))))
theorem fact96 (ρ : Env) : E.B ρ f96 = true := by
  unfold f96
  rw [sm_B_imp]
  simp only [sm_B_and]
  rintro ⟨p0, p1, p2, p3, p4, p5, p6, p7, p8, p9, p10, p11, p12, p13, p14, p15, p16, p17, p18, p19, p20, p21, p22, p23, p24, p25, p26, p27, p28⟩
  have g0 := t107_nth p15 (i := (.var 24))
  clear p0 p1 p14 p15 p16 p26
  try simp only [smA, smW] at *
  try generalize E.I ρ (.var 35) = a0 at *
  try generalize E.I ρ (.var 34) = a1 at *
  have na2 := fn0_nn (ρ := ρ) (.var 33)
  try generalize E.I ρ (.fn 0 (.var 33)) = a2 at *
  try generalize E.I ρ (.var 24) = a3 at *
  try generalize E.I ρ (.var 26) = a4 at *
  try generalize E.I ρ (.var 27) = a5 at *
  try generalize E.I ρ (.var 32) = a6 at *
  try generalize E.I ρ (.var 31) = a7 at *
  try generalize E.I ρ (.var 29) = a8 at *
  have na9 := fn0_nn (ρ := ρ) (.var 28)
  try generalize E.I ρ (.fn 0 (.var 28)) = a9 at *
  try generalize E.I ρ (.var 1) = a10 at *
  try generalize E.I ρ (.var 0) = a11 at *
  try generalize E.I ρ (.fn 1 (.pr (.var 28) (.var 24))) = a12 at *
  try generalize E.I ρ (.var 36) = a13 at *
  omega
noncomputable def f97 : E := (.imp (.and (.fn 105 (.pr (.var 33) (.pr (.var 28) (.fn 6 (.pr (.var 24) (.int 1)))))) (.and (.fn 104 (.pr (.var 30) (.pr (.var 28) (.fn 6 (.pr (.var 24) (.int 1)))))) (.and (.not (.cmp .lss (.var 35) (.var 34))) (.and (.cmp .eql (.var 34) (.fn 0 (.var 33))) (.and (.cmp .eql (.fn 6 (.pr (.var 34) (.fn 6 (.pr (.var 24) (.int 1))))) (.var 26)) (.and (.not (.cmp .lss (.var 27) (.var 32))) (.and (.not (.cmp .lss (.var 32) (.var 31))) (.and (.cmp .eql (.var 31) (.fn 6 (.pr (.var 24) (.int 1)))) (.and (.cmp .lss (.fn 6 (.pr (.var 24) (.int 1))) (.var 26)) (.and (.not (.cmp .lss (.var 24) (.int (-1)))) (.and (.not (.cmp .lss (.int 200) (.var 34))) (.and (.not (.cmp .lss (.var 34) (.int 1))) (.and (.not (.cmp .lss (.var 26) (.var 31))) (.and (.not (.cmp .lss (.var 31) (.int 0))) (.and (.fn 108 (.var 28)) (.and (.fn 107 (.var 28)) (.and (.fn 106 (.pr (.var 25) (.var 28))) (.and (.not (.cmp .lss (.var 29) (.var 26))) (.and (.not (.cmp .lss (.var 27) (.var 26))) (.and (.cmp .eql (.var 26) (.fn 0 (.var 28))) (.and (.not (.cmp .lss (.var 26) (.int 1))) (.and (.not (.cmp .lss (.var 1) (.int 1))) (.and (.not (.cmp .lss (.var 0) (.int 0))) (.and (.not (.cmp .lss (.var 24) (.int 0))) (.and (.not (.cmp .lss (.fn 1 (.pr (.var 28) (.var 24))) (.int 1))) (.and (.not (.cmp .lss (.int 4096) (.fn 1 (.pr (.var 28) (.var 24))))) (.and (.fn 33 (.pr (.var 30) (.fn 1 (.pr (.var 28) (.var 24))))) (.and (.cmp .eql (.var 36) (.fn 7 (.pr (.var 31) (.int 1)))) (.not (.cmp .lss (.int 200) (.var 26))))))))))))))))))))))))))))))) (.not (.cmp .lss (.ar .add .i64 (.var 36) (.int 1)) (.int 0))))
theorem fact97 (ρ : Env) : E.B ρ f97 = true := by
  unfold f97
  rw [sm_B_imp]
  simp only [sm_B_and]
  rintro ⟨p0, p1, p2, p3, p4, p5, p6, p7, p8, p9, p10, p11, p12, p13, p14, p15, p16, p17, p18, p19, p20, p21, p22, p23, p24, p25, p26, p27, p28⟩
  have g0 := t107_nth p15 (i := (.var 24))
  obtain ⟨v0, ev0, qv0⟩ := cs_i64 (E.I ρ (.var 36) + E.I ρ (.int 1))
  have ew0 : E.I ρ (.ar .add .i64 (.var 36) (.int 1)) = v0 := ev0
  try simp only [ew0] at g0
  clear p0 p1 p14 p15 p16 p26
  try simp only [smA, smW] at *
  try generalize E.I ρ (.var 35) = a0 at *
  try generalize E.I ρ (.var 34) = a1 at *
  have na2 := fn0_nn (ρ := ρ) (.var 33)
  try generalize E.I ρ (.fn 0 (.var 33)) = a2 at *
  try generalize E.I ρ (.var 24) = a3 at *
  try generalize E.I ρ (.var 26) = a4 at *
  try generalize E.I ρ (.var 27) = a5 at *
  try generalize E.I ρ (.var 32) = a6 at *
  try generalize E.I ρ (.var 31) = a7 at *
  try generalize E.I ρ (.var 29) = a8 at *
  have na9 := fn0_nn (ρ := ρ) (.var 28)
  try generalize E.I ρ (.fn 0 (.var 28)) = a9 at *
  try generalize E.I ρ (.var 1) = a10 at *
  try generalize E.I ρ (.var 0) = a11 at *
  try generalize E.I ρ (.fn 1 (.pr (.var 28) (.var 24))) = a12 at *
  try generalize E.I ρ (.var 36) = a13 at *
  obtain ⟨a14, ea14, qa14⟩ := cs_i64 (a13 + (1))
  try simp only [ea14] at *
  omega
noncomputable def f98 : E := (.imp (.and (.not (.cmp .lss (.var 0) (.var 8))) (.and (.cmp .eql (.ar .rem .i64 (.var 8) (.var 1)) (.int 0)) (.and (.not (.cmp .lss (.var 15) (.int 0))) (.and (.not (.cmp .lss (.var 15) (.fn 6 (.pr (.var 10) (.int 1))))) (.and (.not (.cmp .lss (.var 16) (.int 0))) (.and (.not (.cmp .lss (.var 16) (.int 1))) (.and (.not (.cmp .lss (.var 17) (.int 0))) (.and (.not (.cmp .lss (.var 17) (.fn 6 (.pr (.var 10) (.int 1))))) (.and (.not (.cmp .lss (.int 9) (.var 1))) (.and (.not (.cmp .lss (.var 1) (.int 1))) (.and (.not (.cmp .lss (.int 200) (.var 0))) (.and (.not (.cmp .lss (.var 0) (.int 0))) (.and (.fn 101 (.pr (.var 14) (.var 10))) (.and (.fn 100 (.pr (.var 12) (.pr (.var 10) (.var 1)))) (.and (.fn 100 (.pr (.var 9) (.pr (.var 10) (.var 1)))) (.and (.not (.cmp .lss (.var 13) (.var 10))) (.and (.not (.cmp .lss (.var 11) (.var 10))) (.and (.cmp .eql (.var 10) (.fn 0 (.var 9))) (.and (.cmp .eql (.var 10) (.fn 7 (.pr (.var 8) (.int 1)))) (.and (.not (.cmp .lss (.fn 6 (.pr (.var 0) (.int 1))) (.var 8))) (.and (.not (.cmp .lss (.var 8) (.int 2))) (.and (.not (.cmp .lss (.int 200) (.var 10))) (.not (.cmp .lss (.var 10) (.int 1))))))))))))))))))))))))) (.fn 100 (.pr (.fn 3 (.pr (.fn 23 (.pr (.var 8) (.fn 10 (.int 0)))) (.var 12))) (.pr (.fn 6 (.pr (.var 10) (.int 1))) (.var 1)))))
theorem fact98 (ρ : Env) : E.B ρ f98 = true := by
  unfold f98
  rw [sm_B_imp]
  simp only [sm_B_and]
  rintro ⟨p0, p1, p2, p3, p4, p5, p6, p7, p8, p9, p10, p11, p12, p13, p14, p15, p16, p17, p18, p19, p20, p21, p22⟩
  exact t100_under (id := (.var 8)) p13 (by simp only [ints_app, ints_cons, ints_nil, ints_sub0, List.nil_append, List.append_nil, List.cons_append]) (by first | omega | (simp only [smA, ints_len] at *; first | done | omega)) (by first | omega | (simp only [smA, ints_len] at *; first | done | omega)) (by first | omega | (simp only [smA, ints_len] at *; first | done | omega)) (by rw [sm_B_eql, sm_I_rem, sm_I_int] at p1; exact p1)
noncomputable def f99 : E := (.imp (.and (.not (.cmp .lss (.var 0) (.var 8))) (.and (.not (.cmp .eql (.ar .rem .i64 (.var 8) (.var 1)) (.int 0))) (.and (.not (.cmp .lss (.var 15) (.int 0))) (.and (.not (.cmp .lss (.var 15) (.fn 6 (.pr (.var 10) (.int 1))))) (.and (.not (.cmp .eql (.var 11) (.var 10))) (.and (.not (.cmp .lss (.var 16) (.int 0))) (.and (.not (.cmp .lss (.var 16) (.fn 6 (.pr (.var 10) (.int 1))))) (.and (.not (.cmp .lss (.int 9) (.var 1))) (.and (.not (.cmp .lss (.var 1) (.int 1))) (.and (.not (.cmp .lss (.int 200) (.var 0))) (.and (.not (.cmp .lss (.var 0) (.int 0))) (.and (.fn 101 (.pr (.var 14) (.var 10))) (.and (.fn 100 (.pr (.var 12) (.pr (.var 10) (.var 1)))) (.and (.fn 100 (.pr (.var 9) (.pr (.var 10) (.var 1)))) (.and (.not (.cmp .lss (.var 13) (.var 10))) (.and (.not (.cmp .lss (.var 11) (.var 10))) (.and (.cmp .eql (.var 10) (.fn 0 (.var 9))) (.and (.cmp .eql (.var 10) (.fn 7 (.pr (.var 8) (.int 1)))) (.and (.not (.cmp .lss (.fn 6 (.pr (.var 0) (.int 1))) (.var 8))) (.and (.not (.cmp .lss (.var 8) (.int 2))) (.and (.not (.cmp .lss (.int 200) (.var 10))) (.not (.cmp .lss (.var 10) (.int 1)))))))))))))))))))))))) (.fn 100 (.pr (.fn 3 (.pr (.var 9) (.fn 23 (.pr (.var 8) (.fn 10 (.int 0)))))) (.pr (.fn 6 (.pr (.var 10) (.int 1))) (.var 1)))))
theorem fact99 (ρ : Env) : E.B ρ f99 = true := by
  unfold f99
  rw [sm_B_imp]
  simp only [sm_B_and]
  rintro ⟨p0, p1, p2, p3, p4, p5, p6, p7, p8, p9, p10, p11, p12, p13, p14, p15, p16, p17, p18, p19, p20, p21⟩
  exact t100_top (id := (.var 8)) p13 (by simp only [ints_app, ints_cons, ints_nil, ints_sub0, List.nil_append, List.append_nil, List.cons_append]) (by first | omega | (simp only [smA, ints_len] at *; first | done | omega)) (by first | omega | (simp only [smA, ints_len] at *; first | done | omega)) (by first | omega | (simp only [smA, ints_len] at *; first | done | omega)) (by rw [sm_B_not, sm_B_eql, sm_I_rem, sm_I_int] at p1; exact p1)
noncomputable def f100 : E := (.imp (.and (.not (.cmp .lss (.var 0) (.var 8))) (.and (.not (.cmp .eql (.ar .rem .i64 (.var 8) (.var 1)) (.int 0))) (.and (.not (.cmp .lss (.var 15) (.int 0))) (.and (.not (.cmp .lss (.var 15) (.fn 6 (.pr (.var 10) (.int 1))))) (.and (.cmp .eql (.var 11) (.var 10)) (.and (.not (.cmp .lss (.var 16) (.int 0))) (.and (.not (.cmp .lss (.var 16) (.fn 6 (.pr (.var 10) (.int 1))))) (.and (.not (.cmp .lss (.int 9) (.var 1))) (.and (.not (.cmp .lss (.var 1) (.int 1))) (.and (.not (.cmp .lss (.int 200) (.var 0))) (.and (.not (.cmp .lss (.var 0) (.int 0))) (.and (.fn 101 (.pr (.var 14) (.var 10))) (.and (.fn 100 (.pr (.var 12) (.pr (.var 10) (.var 1)))) (.and (.fn 100 (.pr (.var 9) (.pr (.var 10) (.var 1)))) (.and (.not (.cmp .lss (.var 13) (.var 10))) (.and (.not (.cmp .lss (.var 11) (.var 10))) (.and (.cmp .eql (.var 10) (.fn 0 (.var 9))) (.and (.cmp .eql (.var 10) (.fn 7 (.pr (.var 8) (.int 1)))) (.and (.not (.cmp .lss (.fn 6 (.pr (.var 0) (.int 1))) (.var 8))) (.and (.not (.cmp .lss (.var 8) (.int 2))) (.and (.not (.cmp .lss (.int 200) (.var 10))) (.not (.cmp .lss (.var 10) (.int 1)))))))))))))))))))))))) (.fn 100 (.pr (.fn 3 (.pr (.var 9) (.fn 23 (.pr (.var 8) (.fn 10 (.int 0)))))) (.pr (.fn 6 (.pr (.var 10) (.int 1))) (.var 1)))))
theorem fact100 (ρ : Env) : E.B ρ f100 = true := by
  unfold f100
  rw [sm_B_imp]
  simp only [sm_B_and]
  rintro ⟨p0, p1, p2, p3, p4, p5, p6, p7, p8, p9, p10, p11, p12, p13, p14, p15, p16, p17, p18, p19, p20, p21⟩
  exact t100_top (id := (.var 8)) p13 (by simp only [ints_app, ints_cons, ints_nil, ints_sub0, List.nil_append, List.append_nil, List.cons_append]) (by first | omega | (simp only [smA, ints_len] at *; first | done | omega)) (by first | omega | (simp only [smA, ints_len] at *; first | done | omega)) (by first | omega | (simp only [smA, ints_len] at *; first | done | omega)) (by rw [sm_B_not, sm_B_eql, sm_I_rem, sm_I_int] at p1; exact p1)
noncomputable def f101 : E := (.imp (.and (.cmp .lss (.var 0) (.var 8)) (.and (.not (.cmp .lss (.var 15) (.int 0))) (.and (.not (.cmp .lss (.var 15) (.var 10))) (.and (.not (.cmp .lss (.int 9) (.var 1))) (.and (.not (.cmp .lss (.var 1) (.int 1))) (.and (.not (.cmp .lss (.int 200) (.var 0))) (.and (.not (.cmp .lss (.var 0) (.int 0))) (.and (.fn 101 (.pr (.var 14) (.var 10))) (.and (.fn 100 (.pr (.var 12) (.pr (.var 10) (.var 1)))) (.and (.fn 100 (.pr (.var 9) (.pr (.var 10) (.var 1)))) (.and (.not (.cmp .lss (.var 13) (.var 10))) (.and (.not (.cmp .lss (.var 11) (.var 10))) (.and (.cmp .eql (.var 10) (.fn 0 (.var 9))) (.and (.cmp .eql (.var 10) (.fn 7 (.pr (.var 8) (.int 1)))) (.and (.not (.cmp .lss (.fn 6 (.pr (.var 0) (.int 1))) (.var 8))) (.and (.not (.cmp .lss (.var 8) (.int 2))) (.and (.not (.cmp .lss (.int 200) (.var 10))) (.not (.cmp .lss (.var 10) (.int 1)))))))))))))))))))) (.fn 104 (.pr (.var 14) (.pr (.var 12) (.var 10)))))
theorem fact101 (ρ : Env) : E.B ρ f101 = true := by
  unfold f101
  rw [sm_B_imp]
  simp only [sm_B_and]
  rintro ⟨p0, p1, p2, p3, p4, p5, p6, p7, p8, p9, p10, p11, p12, p13, p14, p15, p16, p17⟩
  first
    | exact t104_of p7 p8 (by first | omega | (simp only [smA, ints_len] at *; first | done | omega))
    | exact t104_of p7 p9 (by first | omega | (simp only [smA, ints_len] at *; first | done | omega))
noncomputable def f102 : E := (.imp (.and (.cmp .eql (.var 31) (.fn 7 (.pr (.var 26) (.int 1)))) (.and (.not (.cmp .lss (.var 29) (.var 26))) (.and (.not (.cmp .lss (.var 27) (.var 26))) (.and (.cmp .eql (.var 26) (.fn 0 (.var 28))) (.and (.not (.cmp .lss (.int 200) (.var 26))) (.and (.not (.cmp .lss (.var 26) (.int 1))) (.cmp .eql (.var 24) (.fn 7 (.pr (.var 26) (.int 1)))))))))) (.cmp .eql (.fn 7 (.pr (.var 26) (.ar .add .i64 (.var 31) (.int 1)))) (.int 0)))
theorem fact102 (ρ : Env) : E.B ρ f102 = true := by
  unfold f102
  rw [sm_B_imp]
  simp only [sm_B_and]
  rintro ⟨p0, p1, p2, p3, p4, p5, p6⟩
  try simp only [smA, smW] at *
  try generalize E.I ρ (.var 31) = a0 at *
  try generalize E.I ρ (.var 26) = a1 at *
  try generalize E.I ρ (.var 29) = a2 at *
  try generalize E.I ρ (.var 27) = a3 at *
  have na4 := fn0_nn (ρ := ρ) (.var 28)
  try generalize E.I ρ (.fn 0 (.var 28)) = a4 at *
  try generalize E.I ρ (.var 24) = a5 at *
  obtain ⟨a6, ea6, qa6⟩ := cs_i64 (a0 + (1))
  try simp only [ea6] at *
  omega
noncomputable def f103 : E := (.imp (.and (.cmp .eql (.var 36) (.fn 7 (.pr (.var 31) (.int 1)))) (.and (.not (.cmp .lss (.var 35) (.var 34))) (.and (.cmp .eql (.var 34) (.fn 0 (.var 33))) (.and (.cmp .eql (.fn 6 (.pr (.var 34) (.fn 6 (.pr (.var 24) (.int 1))))) (.var 26)) (.and (.not (.cmp .lss (.var 27) (.var 32))) (.and (.not (.cmp .lss (.var 32) (.var 31))) (.and (.cmp .eql (.var 31) (.fn 6 (.pr (.var 24) (.int 1)))) (.and (.cmp .lss (.fn 6 (.pr (.var 24) (.int 1))) (.var 26)) (.and (.not (.cmp .lss (.var 24) (.int (-1)))) (.and (.not (.cmp .lss (.int 200) (.var 34))) (.and (.not (.cmp .lss (.var 34) (.int 1))) (.and (.not (.cmp .lss (.var 26) (.var 31))) (.and (.not (.cmp .lss (.var 31) (.int 0))) (.and (.not (.cmp .lss (.var 29) (.var 26))) (.and (.not (.cmp .lss (.var 27) (.var 26))) (.and (.cmp .eql (.var 26) (.fn 0 (.var 28))) (.and (.not (.cmp .lss (.int 200) (.var 26))) (.not (.cmp .lss (.var 26) (.int 1)))))))))))))))))))) (.not (.cmp .lss (.var 32) (.var 36))))
theorem fact103 (ρ : Env) : E.B ρ f103 = true := by
  unfold f103
  rw [sm_B_imp]
  simp only [sm_B_and]
  rintro ⟨p0, p1, p2, p3, p4, p5, p6, p7, p8, p9, p10, p11, p12, p13, p14, p15, p16, p17⟩
  try simp only [smA, smW] at *
  try generalize E.I ρ (.var 36) = a0 at *
  try generalize E.I ρ (.var 31) = a1 at *
  try generalize E.I ρ (.var 35) = a2 at *
  try generalize E.I ρ (.var 34) = a3 at *
  have na4 := fn0_nn (ρ := ρ) (.var 33)
  try generalize E.I ρ (.fn 0 (.var 33)) = a4 at *
  try generalize E.I ρ (.var 24) = a5 at *
  try generalize E.I ρ (.var 26) = a6 at *
  try generalize E.I ρ (.var 27) = a7 at *
  try generalize E.I ρ (.var 32) = a8 at *
  try generalize E.I ρ (.var 29) = a9 at *
  have na10 := fn0_nn (ρ := ρ) (.var 28)
  try generalize E.I ρ (.fn 0 (.var 28)) = a10 at *
  omega
noncomputable def f104 : E := (.imp (.and (.not (.cmp .lss (.var 24) (.int 0))) (.and (.cmp .eql (.var 36) (.fn 7 (.pr (.var 31) (.int 1)))) (.and (.not (.cmp .lss (.var 35) (.var 34))) (.and (.cmp .eql (.var 34) (.fn 0 (.var 33))) (.and (.cmp .eql (.fn 6 (.pr (.var 34) (.fn 6 (.pr (.var 24) (.int 1))))) (.var 26)) (.and (.not (.cmp .lss (.var 27) (.var 32))) (.and (.not (.cmp .lss (.var 32) (.var 31))) (.and (.cmp .eql (.var 31) (.fn 6 (.pr (.var 24) (.int 1)))) (.and (.cmp .lss (.fn 6 (.pr (.var 24) (.int 1))) (.var 26)) (.and (.not (.cmp .lss (.var 24) (.int (-1)))) (.and (.not (.cmp .lss (.int 200) (.var 34))) (.and (.not (.cmp .lss (.var 34) (.int 1))) (.and (.not (.cmp .lss (.var 26) (.var 31))) (.and (.not (.cmp .lss (.var 31) (.int 0))) (.and (.not (.cmp .lss (.var 29) (.var 26))) (.and (.not (.cmp .lss (.var 27) (.var 26))) (.and (.cmp .eql (.var 26) (.fn 0 (.var 28))) (.and (.not (.cmp .lss (.int 200) (.var 26))) (.not (.cmp .lss (.var 26) (.int 1))))))))))))))))))))) (.not (.cmp .lss (.var 31) (.ar .add .i64 (.var 36) (.int 1)))))
theorem fact104 (ρ : Env) : E.B ρ f104 = true := by
  unfold f104
  rw [sm_B_imp]
  simp only [sm_B_and]
  rintro ⟨p0, p1, p2, p3, p4, p5, p6, p7, p8, p9, p10, p11, p12, p13, p14, p15, p16, p17, p18⟩
  try simp only [smA, smW] at *
  try generalize E.I ρ (.var 24) = a0 at *
  try generalize E.I ρ (.var 36) = a1 at *
  try generalize E.I ρ (.var 31) = a2 at *
  try generalize E.I ρ (.var 35) = a3 at *
  try generalize E.I ρ (.var 34) = a4 at *
  have na5 := fn0_nn (ρ := ρ) (.var 33)
  try generalize E.I ρ (.fn 0 (.var 33)) = a5 at *
  try generalize E.I ρ (.var 26) = a6 at *
  try generalize E.I ρ (.var 27) = a7 at *
  try generalize E.I ρ (.var 32) = a8 at *
  try generalize E.I ρ (.var 29) = a9 at *
  have na10 := fn0_nn (ρ := ρ) (.var 28)
  try generalize E.I ρ (.fn 0 (.var 28)) = a10 at *
  obtain ⟨a11, ea11, qa11⟩ := cs_i64 (a1 + (1))
  try simp only [ea11] at *
  omega
noncomputable def f105 : E := (.imp (.and (.not (.cmp .lss (.var 0) (.var 8))) (.and (.cmp .eql (.ar .rem .i64 (.var 8) (.var 1)) (.int 0)) (.and (.not (.cmp .lss (.var 15) (.int 0))) (.and (.not (.cmp .lss (.var 15) (.fn 6 (.pr (.var 10) (.int 1))))) (.and (.not (.cmp .lss (.var 16) (.int 0))) (.and (.not (.cmp .lss (.var 16) (.int 1))) (.and (.not (.cmp .lss (.var 17) (.int 0))) (.and (.not (.cmp .lss (.var 17) (.fn 6 (.pr (.var 10) (.int 1))))) (.and (.not (.cmp .lss (.int 9) (.var 1))) (.and (.not (.cmp .lss (.var 1) (.int 1))) (.and (.not (.cmp .lss (.int 200) (.var 0))) (.and (.not (.cmp .lss (.var 0) (.int 0))) (.and (.fn 101 (.pr (.var 14) (.var 10))) (.and (.fn 100 (.pr (.var 12) (.pr (.var 10) (.var 1)))) (.and (.fn 100 (.pr (.var 9) (.pr (.var 10) (.var 1)))) (.and (.not (.cmp .lss (.var 13) (.var 10))) (.and (.not (.cmp .lss (.var 11) (.var 10))) (.and (.cmp .eql (.var 10) (.fn 0 (.var 9))) (.and (.cmp .eql (.var 10) (.fn 7 (.pr (.var 8) (.int 1)))) (.and (.not (.cmp .lss (.fn 6 (.pr (.var 0) (.int 1))) (.var 8))) (.and (.not (.cmp .lss (.var 8) (.int 2))) (.and (.not (.cmp .lss (.int 200) (.var 10))) (.not (.cmp .lss (.var 10) (.int 1))))))))))))))))))))))))) (.fn 101 (.pr (.fn 34 (.pr (.var 14) (.pr (.var 8) (.int 0)))) (.fn 6 (.pr (.var 10) (.int 1))))))
theorem fact105 (ρ : Env) : E.B ρ f105 = true := by
  unfold f105
  rw [sm_B_imp]
  simp only [sm_B_and]
  rintro ⟨p0, p1, p2, p3, p4, p5, p6, p7, p8, p9, p10, p11, p12, p13, p14, p15, p16, p17, p18, p19, p20, p21, p22⟩
  exact t101_put p12 (by first | omega | (simp only [smA, ints_len] at *; first | done | omega)) (by first | omega | (simp only [smA, ints_len] at *; first | done | omega)) (by first | omega | (simp only [smA, ints_len] at *; first | done | omega))
noncomputable def f106 : E := (.imp (.and (.not (.cmp .lss (.var 0) (.var 8))) (.and (.not (.cmp .eql (.ar .rem .i64 (.var 8) (.var 1)) (.int 0))) (.and (.not (.cmp .lss (.var 15) (.int 0))) (.and (.not (.cmp .lss (.var 15) (.fn 6 (.pr (.var 10) (.int 1))))) (.and (.not (.cmp .eql (.var 11) (.var 10))) (.and (.not (.cmp .lss (.var 16) (.int 0))) (.and (.not (.cmp .lss (.var 16) (.fn 6 (.pr (.var 10) (.int 1))))) (.and (.not (.cmp .lss (.int 9) (.var 1))) (.and (.not (.cmp .lss (.var 1) (.int 1))) (.and (.not (.cmp .lss (.int 200) (.var 0))) (.and (.not (.cmp .lss (.var 0) (.int 0))) (.and (.fn 101 (.pr (.var 14) (.var 10))) (.and (.fn 100 (.pr (.var 12) (.pr (.var 10) (.var 1)))) (.and (.fn 100 (.pr (.var 9) (.pr (.var 10) (.var 1)))) (.and (.not (.cmp .lss (.var 13) (.var 10))) (.and (.not (.cmp .lss (.var 11) (.var 10))) (.and (.cmp .eql (.var 10) (.fn 0 (.var 9))) (.and (.cmp .eql (.var 10) (.fn 7 (.pr (.var 8) (.int 1)))) (.and (.not (.cmp .lss (.fn 6 (.pr (.var 0) (.int 1))) (.var 8))) (.and (.not (.cmp .lss (.var 8) (.int 2))) (.and (.not (.cmp .lss (.int 200) (.var 10))) (.not (.cmp .lss (.var 10) (.int 1)))))))))))))))))))))))) (.fn 100 (.pr (.fn 3 (.pr (.var 12) (.fn 23 (.pr (.var 8) (.fn 10 (.int 0)))))) (.pr (.fn 6 (.pr (.var 10) (.int 1))) (.var 1)))))
theorem fact106 (ρ : Env) : E.B ρ f106 = true := by
  unfold f106
  rw [sm_B_imp]
  simp only [sm_B_and]
  rintro ⟨p0, p1, p2, p3, p4, p5, p6, p7, p8, p9, p10, p11, p12, p13, p14, p15, p16, p17, p18, p19, p20, p21⟩
  exact t100_top (id := (.var 8)) p12 (by simp only [ints_app, ints_cons, ints_nil, ints_sub0, List.nil_append, List.append_nil, List.cons_append]) (by first | omega | (simp only [smA, ints_len] at *; first | done | omega)) (by first | omega | (simp only [smA, ints_len] at *; first | done | omega)) (by first | omega | (simp only [smA, ints_len] at *; first | done | omega)) (by rw [sm_B_not, sm_B_eql, sm_I_rem, sm_I_int] at p1; exact p1)
noncomputable def f107 : E := (.imp (.and (.not (.cmp .lss (.var 0) (.var 8))) (.and (.not (.cmp .eql (.ar .rem .i64 (.var 8) (.var 1)) (.int 0))) (.and (.not (.cmp .lss (.var 15) (.int 0))) (.and (.not (.cmp .lss (.var 15) (.fn 6 (.pr (.var 10) (.int 1))))) (.and (.cmp .eql (.var 11) (.var 10)) (.and (.not (.cmp .lss (.var 16) (.int 0))) (.and (.not (.cmp .lss (.var 16) (.fn 6 (.pr (.var 10) (.int 1))))) (.and (.not (.cmp .lss (.int 9) (.var 1))) (.and (.not (.cmp .lss (.var 1) (.int 1))) (.and (.not (.cmp .lss (.int 200) (.var 0))) (.and (.not (.cmp .lss (.var 0) (.int 0))) (.and (.fn 101 (.pr (.var 14) (.var 10))) (.and (.fn 100 (.pr (.var 12) (.pr (.var 10) (.var 1)))) (.and (.fn 100 (.pr (.var 9) (.pr (.var 10) (.var 1)))) (.and (.not (.cmp .lss (.var 13) (.var 10))) (.and (.not (.cmp .lss (.var 11) (.var 10))) (.and (.cmp .eql (.var 10) (.fn 0 (.var 9))) (.and (.cmp .eql (.var 10) (.fn 7 (.pr (.var 8) (.int 1)))) (.and (.not (.cmp .lss (.fn 6 (.pr (.var 0) (.int 1))) (.var 8))) (.and (.not (.cmp .lss (.var 8) (.int 2))) (.and (.not (.cmp .lss (.int 200) (.var 10))) (.not (.cmp .lss (.var 10) (.int 1)))))))))))))))))))))))) (.fn 100 (.pr (.fn 3 (.pr (.var 12) (.fn 23 (.pr (.var 8) (.fn 10 (.int 0)))))) (.pr (.fn 6 (.pr (.var 10) (.int 1))) (.var 1)))))
theorem fact107 (ρ : Env) : E.B ρ f107 = true := by
  unfold f107
  rw [sm_B_imp]
  simp only [sm_B_and]
  rintro ⟨p0, p1, p2, p3, p4, p5, p6, p7, p8, p9, p10, p11, p12, p13, p14, p15, p16, p17, p18, p19, p20, p21⟩
  exact t100_top (id := (.var 8)) p12 (by simp only [ints_app, ints_cons, ints_nil, ints_sub0, List.nil_append, List.append_nil, List.cons_append]) (by first | omega | (simp only [smA, ints_len] at *; first | done | omega)) (by first | omega | (simp only [smA, ints_len] at *; first | done | omega)) (by first | omega | (simp only [smA, ints_len] at *; first | done | omega)) (by rw [sm_B_not, sm_B_eql, sm_I_rem, sm_I_int] at p1; exact p1)
noncomputable def f108 : E := (.imp (.and (.fn 104 (.pr (.var 30) (.pr (.var 28) (.var 26)))) (.and (.fn 108 (.var 28)) (.and (.fn 107 (.var 28)) (.and (.fn 106 (.pr (.var 25) (.var 28))) (.and (.not (.cmp .lss (.var 1) (.int 1))) (.and (.not (.cmp .lss (.var 0) (.int 0))) (.and (.not (.cmp .lss (.var 29) (.var 26))) (.and (.not (.cmp .lss (.var 27) (.var 26))) (.and (.cmp .eql (.var 26) (.fn 0 (.var 28))) (.and (.not (.cmp .lss (.int 200) (.var 26))) (.and (.not (.cmp .lss (.var 26) (.int 1))) (.cmp .eql (.var 24) (.fn 7 (.pr (.var 26) (.int 1))))))))))))))) (.not (.cmp .lss (.fn 1 (.pr (.var 28) (.var 24))) (.int 1))))
theorem fact108 (ρ : Env) : E.B ρ f108 = true := by
  unfold f108
  rw [sm_B_imp]
  simp only [sm_B_and]
  rintro ⟨p0, p1, p2, p3, p4, p5, p6, p7, p8, p9, p10, p11⟩
  have g0 := t107_nth p2 (i := (.var 24))
  clear p0 p1 p2 p3
  try simp only [smA, smW] at *
  try generalize E.I ρ (.var 1) = a0 at *
  try generalize E.I ρ (.var 0) = a1 at *
  try generalize E.I ρ (.var 29) = a2 at *
  try generalize E.I ρ (.var 26) = a3 at *
  try generalize E.I ρ (.var 27) = a4 at *
  have na5 := fn0_nn (ρ := ρ) (.var 28)
  try generalize E.I ρ (.fn 0 (.var 28)) = a5 at *
  try generalize E.I ρ (.var 24) = a6 at *
  try generalize E.I ρ (.fn 1 (.pr (.var 28) (.var 24))) = a7 at *
  omega
noncomputable def f109 : E := (.imp (.and (.not (.cmp .lss (.fn 1 (.pr (.var 28) (.var 24))) (.int 1))) (.and (.not (.cmp .lss (.int 4096) (.fn 1 (.pr (.var 28) (.var 24))))) (.and (.fn 108 (.var 28)) (.and (.fn 107 (.var 28)) (.and (.fn 106 (.pr (.var 25) (.var 28))) (.and (.not (.cmp .lss (.var 29) (.var 26))) (.and (.not (.cmp .lss (.var 27) (.var 26))) (.and (.cmp .eql (.var 26) (.fn 0 (.var 28))) (.and (.not (.cmp .lss (.int 200) (.var 26))) (.and (.not (.cmp .lss (.var 26) (.int 1))) (.and (.not (.cmp .lss (.int 9) (.var 1))) (.and (.not (.cmp .lss (.var 1) (.int 1))) (.and (.not (.cmp .lss (.int 200) (.var 0))) (.and (.not (.cmp .lss (.var 0) (.int 0))) (.and (.fn 104 (.pr (.var 30) (.pr (.var 28) (.var 26)))) (.cmp .eql (.var 24) (.fn 7 (.pr (.var 26) (.int 1))))))))))))))))))) (.fn 33 (.pr (.var 30) (.fn 1 (.pr (.var 28) (.var 24))))))
theorem fact109 (ρ : Env) : E.B ρ f109 = true := by
  unfold f109
  rw [sm_B_imp]
  simp only [sm_B_and]
  rintro ⟨p0, p1, p2, p3, p4, p5, p6, p7, p8, p9, p10, p11, p12, p13, p14, p15⟩
  exact t33 p14 (by first | omega | (simp only [smA, ints_len] at *; first | done | omega)) (by first | omega | (simp only [smA, ints_len] at *; first | done | omega)) (by first | omega | (simp only [smA, ints_len] at *; first | done | omega))
noncomputable def f110 : E := (.imp (.and (.not (.cmp .lss (.var 29) (.var 26))) (.and (.not (.cmp .lss (.var 27) (.var 26))) (.and (.cmp .eql (.var 26) (.fn 0 (.var 28))) (.and (.not (.cmp .lss (.int 200) (.var 26))) (.and (.not (.cmp .lss (.var 26) (.int 1))) (.cmp .eql (.var 24) (.fn 7 (.pr (.var 26) (.int 1))))))))) (.not (.cmp .lss (.ar .sub .i64 (.var 24) (.int 1)) (.int (-1)))))
theorem fact110 (ρ : Env) : E.B ρ f110 = true := by
  unfold f110
  rw [sm_B_imp]
  simp only [sm_B_and]
  rintro ⟨p0, p1, p2, p3, p4, p5⟩
  try simp only [smA, smW] at *
  try generalize E.I ρ (.var 29) = a0 at *
  try generalize E.I ρ (.var 26) = a1 at *
  try generalize E.I ρ (.var 27) = a2 at *
  have na3 := fn0_nn (ρ := ρ) (.var 28)
  try generalize E.I ρ (.fn 0 (.var 28)) = a3 at *
  try generalize E.I ρ (.var 24) = a4 at *
  obtain ⟨a5, ea5, qa5⟩ := cs_i64 (a4 - (1))
  try simp only [ea5] at *
  omega
noncomputable def f111 : E := (.imp (.and (.fn 104 (.pr (.var 30) (.pr (.var 28) (.var 26)))) (.and (.fn 108 (.var 28)) (.and (.fn 107 (.var 28)) (.and (.fn 106 (.pr (.var 25) (.var 28))) (.and (.not (.cmp .lss (.var 1) (.int 1))) (.and (.not (.cmp .lss (.var 0) (.int 0))) (.and (.not (.cmp .lss (.fn 1 (.pr (.var 28) (.var 24))) (.int 1))) (.and (.not (.cmp .lss (.var 29) (.var 26))) (.and (.not (.cmp .lss (.var 27) (.var 26))) (.and (.cmp .eql (.var 26) (.fn 0 (.var 28))) (.and (.not (.cmp .lss (.int 200) (.var 26))) (.and (.not (.cmp .lss (.var 26) (.int 1))) (.cmp .eql (.var 24) (.fn 7 (.pr (.var 26) (.int 1)))))))))))))))) (.not (.cmp .lss (.int 4096) (.fn 1 (.pr (.var 28) (.var 24))))))
theorem fact111 (ρ : Env) : E.B ρ f111 = true := by
  unfold f111
  rw [sm_B_imp]
  simp only [sm_B_and]
  rintro ⟨p0, p1, p2, p3, p4, p5, p6, p7, p8, p9, p10, p11, p12⟩
  have g0 := t107_nth p2 (i := (.var 24))
  clear p0 p1 p2 p3
  try simp only [smA, smW] at *
  try generalize E.I ρ (.var 1) = a0 at *
  try generalize E.I ρ (.var 0) = a1 at *
  try generalize E.I ρ (.fn 1 (.pr (.var 28) (.var 24))) = a2 at *
  try generalize E.I ρ (.var 29) = a3 at *
  try generalize E.I ρ (.var 26) = a4 at *
  try generalize E.I ρ (.var 27) = a5 at *
  have na6 := fn0_nn (ρ := ρ) (.var 28)
  try generalize E.I ρ (.fn 0 (.var 28)) = a6 at *
  try generalize E.I ρ (.var 24) = a7 at *
  omega
noncomputable def f112 : E := (.imp (.and (.cmp .eql (.var 36) (.fn 7 (.pr (.var 31) (.int 1)))) (.and (.cmp .eql (.var 32) (.ar .add .i64 (.var 36) (.int 1))) (.and (.not (.cmp .lss (.var 35) (.var 34))) (.and (.cmp .eql (.var 34) (.fn 0 (.var 33))) (.and (.cmp .eql (.fn 6 (.pr (.var 34) (.fn 6 (.pr (.var 24) (.int 1))))) (.var 26)) (.and (.not (.cmp .lss (.var 27) (.var 32))) (.and (.not (.cmp .lss (.var 32) (.var 31))) (.and (.cmp .eql (.var 31) (.fn 6 (.pr (.var 24) (.int 1)))) (.and (.cmp .lss (.fn 6 (.pr (.var 24) (.int 1))) (.var 26)) (.and (.not (.cmp .lss (.var 24) (.int (-1)))) (.and (.not (.cmp .lss (.int 200) (.var 34))) (.and (.not (.cmp .lss (.var 34) (.int 1))) (.and (.not (.cmp .lss (.var 26) (.var 31))) (.and (.not (.cmp .lss (.var 31) (.int 0))) (.and (.not (.cmp .lss (.var 29) (.var 26))) (.and (.not (.cmp .lss (.var 27) (.var 26))) (.and (.cmp .eql (.var 26) (.fn 0 (.var 28))) (.and (.not (.cmp .lss (.int 200) (.var 26))) (.not (.cmp .lss (.var 26) (.int 1))))))))))))))))))))) (.not (.cmp .lss (.var 26) (.var 36))))
theorem fact112 (ρ : Env) : E.B ρ f112 = true := by
  unfold f112
  rw [sm_B_imp]
  simp only [sm_B_and]
  rintro ⟨p0, p1, p2, p3, p4, p5, p6, p7, p8, p9, p10, p11, p12, p13, p14, p15, p16, p17, p18⟩
  try simp only [smA, smW] at *
  try generalize E.I ρ (.var 36) = a0 at *
  try generalize E.I ρ (.var 31) = a1 at *
  try generalize E.I ρ (.var 32) = a2 at *
  try generalize E.I ρ (.var 35) = a3 at *
  try generalize E.I ρ (.var 34) = a4 at *
  have na5 := fn0_nn (ρ := ρ) (.var 33)
  try generalize E.I ρ (.fn 0 (.var 33)) = a5 at *
  try generalize E.I ρ (.var 24) = a6 at *
  try generalize E.I ρ (.var 26) = a7 at *
  try generalize E.I ρ (.var 27) = a8 at *
  try generalize E.I ρ (.var 29) = a9 at *
  have na10 := fn0_nn (ρ := ρ) (.var 28)
  try generalize E.I ρ (.fn 0 (.var 28)) = a10 at *
  obtain ⟨a11, ea11, qa11⟩ := cs_i64 (a0 + (1))
  try simp only [ea11] at *
  omega
noncomputable def f113 : E := (.imp (.and (.cmp .eql (.var 36) (.fn 7 (.pr (.var 31) (.int 1)))) (.and (.not (.cmp .lss (.var 35) (.var 34))) (.and (.cmp .eql (.var 34) (.fn 0 (.var 33))) (.and (.cmp .eql (.fn 6 (.pr (.var 34) (.fn 6 (.pr (.var 24) (.int 1))))) (.var 26)) (.and (.not (.cmp .lss (.var 27) (.var 32))) (.and (.not (.cmp .lss (.var 32) (.var 31))) (.and (.cmp .eql (.var 31) (.fn 6 (.pr (.var 24) (.int 1)))) (.and (.cmp .lss (.fn 6 (.pr (.var 24) (.int 1))) (.var 26)) (.and (.not (.cmp .lss (.var 24) (.int (-1)))) (.and (.not (.cmp .lss (.int 200) (.var 34))) (.and (.not (.cmp .lss (.var 34) (.int 1))) (.and (.not (.cmp .lss (.var 26) (.var 31))) (.and (.not (.cmp .lss (.var 31) (.int 0))) (.and (.not (.cmp .lss (.var 29) (.var 26))) (.and (.not (.cmp .lss (.var 27) (.var 26))) (.and (.cmp .eql (.var 26) (.fn 0 (.var 28))) (.and (.not (.cmp .lss (.int 200) (.var 26))) (.not (.cmp .lss (.var 26) (.int 1)))))))))))))))))))) (.not (.cmp .lss (.var 26) (.var 36))))
theorem fact113 (ρ : Env) : E.B ρ f113 = true := by
  unfold f113
  rw [sm_B_imp]
  simp only [sm_B_and]
  rintro ⟨p0, p1, p2, p3, p4, p5, p6, p7, p8, p9, p10, p11, p12, p13, p14, p15, p16, p17⟩
  try simp only [smA, smW] at *
  try generalize E.I ρ (.var 36) = a0 at *
  try generalize E.I ρ (.var 31) = a1 at *
  try generalize E.I ρ (.var 35) = a2 at *
  try generalize E.I ρ (.var 34) = a3 at *
  have na4 := fn0_nn (ρ := ρ) (.var 33)
  try generalize E.I ρ (.fn 0 (.var 33)) = a4 at *
  try generalize E.I ρ (.var 24) = a5 at *
  try generalize E.I ρ (.var 26) = a6 at *
  try generalize E.I ρ (.var 27) = a7 at *
  try generalize E.I ρ (.var 32) = a8 at *
  try generalize E.I ρ (.var 29) = a9 at *
  have na10 := fn0_nn (ρ := ρ) (.var 28)
  try generalize E.I ρ (.fn 0 (.var 28)) = a10 at *
  omega
noncomputable def f114 : E := (.imp (.and (.cmp .eql (.ar .rem .i64 (.var 8) (.var 1)) (.int 0)) (.and (.not (.cmp .lss (.int 9) (.var 1))) (.and (.not (.cmp .lss (.int 200) (.var 0))) (.and (.not (.cmp .lss (.var 0) (.int 0))) (.and (.not (.cmp .lss (.var 13) (.var 10))) (.and (.not (.cmp .lss (.var 11) (.var 10))) (.and (.cmp .eql (.var 10) (.fn 0 (.var 9))) (.and (.cmp .eql (.var 10) (.fn 7 (.pr (.var 8) (.int 1)))) (.and (.not (.cmp .lss (.fn 6 (.pr (.var 0) (.int 1))) (.var 8))) (.and (.not (.cmp .lss (.var 8) (.int 2))) (.and (.not (.cmp .lss (.int 200) (.var 10))) (.not (.cmp .lss (.var 10) (.int 1)))))))))))))) (.cmp .lss (.fn 7 (.pr (.fn 6 (.pr (.var 0) (.int 1))) (.ar .add .i64 (.var 8) (.int 1)))) (.fn 7 (.pr (.fn 6 (.pr (.var 0) (.int 1))) (.var 8)))))
theorem fact114 (ρ : Env) : E.B ρ f114 = true := by
  unfold f114
  rw [sm_B_imp]
  simp only [sm_B_and]
  rintro ⟨p0, p1, p2, p3, p4, p5, p6, p7, p8, p9, p10, p11⟩
  clear p0
  try simp only [smA, smW] at *
  try generalize E.I ρ (.var 1) = a0 at *
  try generalize E.I ρ (.var 0) = a1 at *
  try generalize E.I ρ (.var 13) = a2 at *
  try generalize E.I ρ (.var 10) = a3 at *
  try generalize E.I ρ (.var 11) = a4 at *
  have na5 := fn0_nn (ρ := ρ) (.var 9)
  try generalize E.I ρ (.fn 0 (.var 9)) = a5 at *
  try generalize E.I ρ (.var 8) = a6 at *
  obtain ⟨a7, ea7, qa7⟩ := cs_i64 (a6 + (1))
  try simp only [ea7] at *
  omega
noncomputable def f115 : E := (.imp (.and (.not (.cmp .lss (.var 0) (.var 8))) (.and (.not (.cmp .eql (.ar .rem .i64 (.var 8) (.var 1)) (.int 0))) (.and (.not (.cmp .lss (.var 15) (.int 0))) (.and (.not (.cmp .lss (.var 15) (.fn 6 (.pr (.var 10) (.int 1))))) (.and (.not (.cmp .eql (.var 11) (.var 10))) (.and (.not (.cmp .lss (.var 16) (.int 0))) (.and (.not (.cmp .lss (.var 16) (.fn 6 (.pr (.var 10) (.int 1))))) (.and (.not (.cmp .lss (.int 9) (.var 1))) (.and (.not (.cmp .lss (.var 1) (.int 1))) (.and (.not (.cmp .lss (.int 200) (.var 0))) (.and (.not (.cmp .lss (.var 0) (.int 0))) (.and (.fn 101 (.pr (.var 14) (.var 10))) (.and (.fn 100 (.pr (.var 12) (.pr (.var 10) (.var 1)))) (.and (.fn 100 (.pr (.var 9) (.pr (.var 10) (.var 1)))) (.and (.not (.cmp .lss (.var 13) (.var 10))) (.and (.not (.cmp .lss (.var 11) (.var 10))) (.and (.cmp .eql (.var 10) (.fn 0 (.var 9))) (.and (.cmp .eql (.var 10) (.fn 7 (.pr (.var 8) (.int 1)))) (.and (.not (.cmp .lss (.fn 6 (.pr (.var 0) (.int 1))) (.var 8))) (.and (.not (.cmp .lss (.var 8) (.int 2))) (.and (.not (.cmp .lss (.int 200) (.var 10))) (.not (.cmp .lss (.var 10) (.int 1)))))))))))))))))))))))) (.fn 101 (.pr (.fn 34 (.pr (.var 14) (.pr (.var 8) (.int 0)))) (.fn 6 (.pr (.var 10) (.int 1))))))
theorem fact115 (ρ : Env) : E.B ρ f115 = true := by
  unfold f115
  rw [sm_B_imp]
  simp only [sm_B_and]
  rintro ⟨p0, p1, p2, p3, p4, p5, p6, p7, p8, p9, p10, p11, p12, p13, p14, p15, p16, p17, p18, p19, p20, p21⟩
  exact t101_put p11 (by first | omega | (simp only [smA, ints_len] at *; first | done | omega)) (by first | omega | (simp only [smA, ints_len] at *; first | done | omega)) (by first | omega | (simp only [smA, ints_len] at *; first | done | omega))
noncomputable def f116 : E := (.imp (.and (.not (.cmp .lss (.var 0) (.var 8))) (.and (.not (.cmp .eql (.ar .rem .i64 (.var 8) (.var 1)) (.int 0))) (.and (.not (.cmp .lss (.var 15) (.int 0))) (.and (.not (.cmp .lss (.var 15) (.fn 6 (.pr (.var 10) (.int 1))))) (.and (.cmp .eql (.var 11) (.var 10)) (.and (.not (.cmp .lss (.var 16) (.int 0))) (.and (.not (.cmp .lss (.var 16) (.fn 6 (.pr (.var 10) (.int 1))))) (.and (.not (.cmp .lss (.int 9) (.var 1))) (.and (.not (.cmp .lss (.var 1) (.int 1))) (.and (.not (.cmp .lss (.int 200) (.var 0))) (.and (.not (.cmp .lss (.var 0) (.int 0))) (.and (.fn 101 (.pr (.var 14) (.var 10))) (.and (.fn 100 (.pr (.var 12) (.pr (.var 10) (.var 1)))) (.and (.fn 100 (.pr (.var 9) (.pr (.var 10) (.var 1)))) (.and (.not (.cmp .lss (.var 13) (.var 10))) (.and (.not (.cmp .lss (.var 11) (.var 10))) (.and (.cmp .eql (.var 10) (.fn 0 (.var 9))) (.and (.cmp .eql (.var 10) (.fn 7 (.pr (.var 8) (.int 1)))) (.and (.not (.cmp .lss (.fn 6 (.pr (.var 0) (.int 1))) (.var 8))) (.and (.not (.cmp .lss (.var 8) (.int 2))) (.and (.not (.cmp .lss (.int 200) (.var 10))) (.not (.cmp .lss (.var 10) (.int 1)))))))))))))))))))))))) (.fn 101 (.pr (.fn 34 (.pr (.var 14) (.pr (.var 8) (.int 0)))) (.fn 6 (.pr (.var 10) (.int 1))))))
theorem fact116 (ρ : Env) : E.B ρ f116 = true := by
  unfold f116
  rw [sm_B_imp]
  simp only [sm_B_and]
  rintro ⟨p0, p1, p2, p3, p4, p5, p6, p7, p8, p9, p10, p11, p12, p13, p14, p15, p16, p17, p18, p19, p20, p21⟩
  exact t101_put p11 (by first | omega | (simp only [smA, ints_len] at *; first | done | omega)) (by first | omega | (simp only [smA, ints_len] at *; first | done | omega)) (by first | omega | (simp only [smA, ints_len] at *; first | done | omega))
noncomputable def f117 : E := (.imp (.and (.not (.cmp .lss (.int 4096) (.fn 1 (.pr (.var 28) (.var 24))))) (.and (.fn 33 (.pr (.var 30) (.fn 1 (.pr (.var 28) (.var 24))))) (.and (.fn 108 (.var 28)) (.and (.fn 107 (.var 28)) (.and (.fn 106 (.pr (.var 25) (.var 28))) (.and (.not (.cmp .lss (.var 29) (.var 26))) (.and (.not (.cmp .lss (.var 27) (.var 26))) (.and (.cmp .eql (.var 26) (.fn 0 (.var 28))) (.and (.not (.cmp .lss (.int 200) (.var 26))) (.and (.not (.cmp .lss (.var 26) (.int 1))) (.and (.not (.cmp .lss (.int 9) (.var 1))) (.and (.not (.cmp .lss (.var 1) (.int 1))) (.and (.not (.cmp .lss (.int 200) (.var 0))) (.and (.not (.cmp .lss (.var 0) (.int 0))) (.and (.fn 104 (.pr (.var 30) (.pr (.var 28) (.var 26)))) (.cmp .eql (.var 24) (.fn 7 (.pr (.var 26) (.int 1))))))))))))))))))) (.fn 103 (.pr (.var 25) (.pr (.var 26) (.fn 1 (.pr (.var 28) (.var 24)))))))
theorem fact117 (ρ : Env) : E.B ρ f117 = true := by
  unfold f117
  rw [sm_B_imp]
  simp only [sm_B_and]
  rintro ⟨p0, p1, p2, p3, p4, p5, p6, p7, p8, p9, p10, p11, p12, p13, p14, p15⟩
  first
    | exact t103_of p4 p2 (by first | omega | (simp only [smA, ints_len] at *; first | done | omega)) (by first | omega | (simp only [smA, ints_len] at *; first | done | omega)) (by first | omega | (simp only [smA, ints_len] at *; first | done | omega))
    | exact t103_one (by simp only [ints_app, ints_cons, ints_nil, ints_sub0, List.nil_append, List.append_nil, List.cons_append, sm_I_int]) (by first | omega | (simp only [smA, ints_len] at *; first | done | omega)) (by first | omega | (simp only [smA, ints_len] at *; first | done | omega))
noncomputable def f118 : E := (.imp (.and (.fn 105 (.pr (.var 33) (.pr (.var 28) (.fn 6 (.pr (.var 24) (.int 1)))))) (.and (.fn 104 (.pr (.var 30) (.pr (.var 28) (.fn 6 (.pr (.var 24) (.int 1)))))) (.and (.not (.cmp .lss (.var 35) (.var 34))) (.and (.cmp .eql (.var 34) (.fn 0 (.var 33))) (.and (.cmp .eql (.fn 6 (.pr (.var 34) (.fn 6 (.pr (.var 24) (.int 1))))) (.var 26)) (.and (.not (.cmp .lss (.var 27) (.var 32))) (.and (.not (.cmp .lss (.var 32) (.var 31))) (.and (.cmp .eql (.var 31) (.fn 6 (.pr (.var 24) (.int 1)))) (.and (.cmp .lss (.fn 6 (.pr (.var 24) (.int 1))) (.var 26)) (.and (.not (.cmp .lss (.var 24) (.int (-1)))) (.and (.not (.cmp .lss (.int 200) (.var 34))) (.and (.not (.cmp .lss (.var 34) (.int 1))) (.and (.not (.cmp .lss (.var 26) (.var 31))) (.and (.not (.cmp .lss (.var 31) (.int 0))) (.and (.fn 108 (.var 28)) (.and (.fn 107 (.var 28)) (.and (.fn 106 (.pr (.var 25) (.var 28))) (.and (.not (.cmp .lss (.var 29) (.var 26))) (.and (.not (.cmp .lss (.var 27) (.var 26))) (.and (.cmp .eql (.var 26) (.fn 0 (.var 28))) (.and (.not (.cmp .lss (.var 26) (.int 1))) (.and (.not (.cmp .lss (.var 1) (.int 1))) (.and (.not (.cmp .lss (.var 0) (.int 0))) (.and (.not (.cmp .lss (.var 24) (.int 0))) (.and (.not (.cmp .lss (.fn 1 (.pr (.var 28) (.var 24))) (.int 1))) (.and (.not (.cmp .lss (.int 4096) (.fn 1 (.pr (.var 28) (.var 24))))) (.and (.fn 33 (.pr (.var 30) (.fn 1 (.pr (.var 28) (.var 24))))) (.and (.cmp .eql (.var 36) (.fn 7 (.pr (.var 31) (.int 1)))) (.and (.cmp .eql (.var 32) (.ar .add .i64 (.var 36) (.int 1))) (.not (.cmp .lss (.int 200) (.var 26)))))))))))))))))))))))))))))))) (.not (.cmp .lss (.int 2147483648) (.var 36))))
theorem fact118 (ρ : Env) : E.B ρ f118 = true := by
  unfold f118
  rw [sm_B_imp]
  simp only [sm_B_and]
  rintro ⟨p0, p1, p2, p3, p4, p5, p6, p7, p8, p9, p10, p11, p12, p13, p14, p15, p16, p17, p18, p19, p20, p21, p22, p23, p24, p25, p26, p27, p28, p29⟩
  have g0 := t107_nth p15 (i := (.var 24))
  obtain ⟨v0, ev0, qv0⟩ := cs_i64 (E.I ρ (.var 36) + E.I ρ (.int 1))
  have ew0 : E.I ρ (.ar .add .i64 (.var 36) (.int 1)) = v0 := ev0
  try simp only [ew0] at g0
  clear p0 p1 p14 p15 p16 p26
  try simp only [smA, smW] at *
  try generalize E.I ρ (.var 35) = a0 at *
  try generalize E.I ρ (.var 34) = a1 at *
  have na2 := fn0_nn (ρ := ρ) (.var 33)
  try generalize E.I ρ (.fn 0 (.var 33)) = a2 at *
  try generalize E.I ρ (.var 24) = a3 at *
  try generalize E.I ρ (.var 26) = a4 at *
  try generalize E.I ρ (.var 27) = a5 at *
  try generalize E.I ρ (.var 32) = a6 at *
  try generalize E.I ρ (.var 31) = a7 at *
  try generalize E.I ρ (.var 29) = a8 at *
  have na9 := fn0_nn (ρ := ρ) (.var 28)
  try generalize E.I ρ (.fn 0 (.var 28)) = a9 at *
  try generalize E.I ρ (.var 1) = a10 at *
  try generalize E.I ρ (.var 0) = a11 at *
  try generalize E.I ρ (.fn 1 (.pr (.var 28) (.var 24))) = a12 at *
  try generalize E.I ρ (.var 36) = a13 at *
  obtain ⟨a14, ea14, qa14⟩ := cs_i64 (a13 + (1))
  try simp only [ea14] at *
  omega
noncomputable def f119 : E := (.imp (.and (.not (.cmp .lss (.var 24) (.int 0))) (.and (.cmp .eql (.var 36) (.fn 7 (.pr (.var 31) (.int 1)))) (.and (.not (.cmp .lss (.var 35) (.var 34))) (.and (.cmp .eql (.var 34) (.fn 0 (.var 33))) (.and (.cmp .eql (.fn 6 (.pr (.var 34) (.fn 6 (.pr (.var 24) (.int 1))))) (.var 26)) (.and (.not (.cmp .lss (.var 27) (.var 32))) (.and (.not (.cmp .lss (.var 32) (.var 31))) (.and (.cmp .eql (.var 31) (.fn 6 (.pr (.var 24) (.int 1)))) (.and (.cmp .lss (.fn 6 (.pr (.var 24) (.int 1))) (.var 26)) (.and (.not (.cmp .lss (.var 24) (.int (-1)))) (.and (.not (.cmp .lss (.int 200) (.var 34))) (.and (.not (.cmp .lss (.var 34) (.int 1))) (.and (.not (.cmp .lss (.var 26) (.var 31))) (.and (.not (.cmp .lss (.var 31) (.int 0))) (.and (.not (.cmp .lss (.var 29) (.var 26))) (.and (.not (.cmp .lss (.var 27) (.var 26))) (.and (.cmp .eql (.var 26) (.fn 0 (.var 28))) (.and (.not (.cmp .lss (.int 200) (.var 26))) (.not (.cmp .lss (.var 26) (.int 1))))))))))))))))))))) (.not (.cmp .lss (.fn 7 (.pr (.var 31) (.ar .add .i64 (.var 36) (.int 1)))) (.int 0))))
theorem fact119 (ρ : Env) : E.B ρ f119 = true := by
  unfold f119
  rw [sm_B_imp]
  simp only [sm_B_and]
  rintro ⟨p0, p1, p2, p3, p4, p5, p6, p7, p8, p9, p10, p11, p12, p13, p14, p15, p16, p17, p18⟩
  try simp only [smA, smW] at *
  try generalize E.I ρ (.var 24) = a0 at *
  try generalize E.I ρ (.var 36) = a1 at *
  try generalize E.I ρ (.var 31) = a2 at *
  try generalize E.I ρ (.var 35) = a3 at *
  try generalize E.I ρ (.var 34) = a4 at *
  have na5 := fn0_nn (ρ := ρ) (.var 33)
  try generalize E.I ρ (.fn 0 (.var 33)) = a5 at *
  try generalize E.I ρ (.var 26) = a6 at *
  try generalize E.I ρ (.var 27) = a7 at *
  try generalize E.I ρ (.var 32) = a8 at *
  try generalize E.I ρ (.var 29) = a9 at *
  have na10 := fn0_nn (ρ := ρ) (.var 28)
  try generalize E.I ρ (.fn 0 (.var 28)) = a10 at *
  obtain ⟨a11, ea11, qa11⟩ := cs_i64 (a1 + (1))
  try simp only [ea11] at *
  omega
noncomputable def f120 : E := (.imp (.and (.not (.cmp .lss (.var 0) (.var 8))) (.and (.cmp .eql (.ar .rem .i64 (.var 8) (.var 1)) (.int 0)) (.and (.not (.cmp .lss (.int 9) (.var 1))) (.and (.not (.cmp .lss (.int 200) (.var 0))) (.and (.not (.cmp .lss (.var 0) (.int 0))) (.and (.not (.cmp .lss (.var 13) (.var 10))) (.and (.not (.cmp .lss (.var 11) (.var 10))) (.and (.cmp .eql (.var 10) (.fn 0 (.var 9))) (.and (.cmp .eql (.var 10) (.fn 7 (.pr (.var 8) (.int 1)))) (.and (.not (.cmp .lss (.fn 6 (.pr (.var 0) (.int 1))) (.var 8))) (.and (.not (.cmp .lss (.var 8) (.int 2))) (.and (.not (.cmp .lss (.int 200) (.var 10))) (.not (.cmp .lss (.var 10) (.int 1))))))))))))))) (.not (.cmp .lss (.fn 7 (.pr (.fn 6 (.pr (.var 0) (.int 1))) (.ar .add .i64 (.var 8) (.int 1)))) (.int 0))))
theorem fact120 (ρ : Env) : E.B ρ f120 = true := by
  unfold f120
  rw [sm_B_imp]
  simp only [sm_B_and]
  rintro ⟨p0, p1, p2, p3, p4, p5, p6, p7, p8, p9, p10, p11, p12⟩
  clear p1
  try simp only [smA, smW] at *
  try generalize E.I ρ (.var 0) = a0 at *
  try generalize E.I ρ (.var 8) = a1 at *
  try generalize E.I ρ (.var 1) = a2 at *
  try generalize E.I ρ (.var 13) = a3 at *
  try generalize E.I ρ (.var 10) = a4 at *
  try generalize E.I ρ (.var 11) = a5 at *
  have na6 := fn0_nn (ρ := ρ) (.var 9)
  try generalize E.I ρ (.fn 0 (.var 9)) = a6 at *
  obtain ⟨a7, ea7, qa7⟩ := cs_i64 (a1 + (1))
  try simp only [ea7] at *
  omega
noncomputable def f121 : E := (.imp (.and (.not (.cmp .lss (.int 200) (.var 0))) (.and (.not (.cmp .lss (.var 0) (.int 0))) (.and (.not (.cmp .lss (.var 13) (.var 10))) (.and (.not (.cmp .lss (.var 11) (.var 10))) (.and (.cmp .eql (.var 10) (.fn 0 (.var 9))) (.and (.cmp .eql (.var 10) (.fn 7 (.pr (.var 8) (.int 1)))) (.and (.not (.cmp .lss (.fn 6 (.pr (.var 0) (.int 1))) (.var 8))) (.and (.not (.cmp .lss (.var 8) (.int 2))) (.and (.not (.cmp .lss (.int 200) (.var 10))) (.not (.cmp .lss (.var 10) (.int 1)))))))))))) (.cmp .lss (.fn 7 (.pr (.fn 6 (.pr (.var 0) (.int 1))) (.ar .add .i64 (.var 8) (.int 1)))) (.fn 7 (.pr (.fn 6 (.pr (.var 0) (.int 1))) (.var 8)))))
theorem fact121 (ρ : Env) : E.B ρ f121 = true := by
  unfold f121
  rw [sm_B_imp]
  simp only [sm_B_and]
  rintro ⟨p0, p1, p2, p3, p4, p5, p6, p7, p8, p9⟩
  try simp only [smA, smW] at *
  try generalize E.I ρ (.var 0) = a0 at *
  try generalize E.I ρ (.var 13) = a1 at *
  try generalize E.I ρ (.var 10) = a2 at *
  try generalize E.I ρ (.var 11) = a3 at *
  have na4 := fn0_nn (ρ := ρ) (.var 9)
  try generalize E.I ρ (.fn 0 (.var 9)) = a4 at *
  try generalize E.I ρ (.var 8) = a5 at *
  obtain ⟨a6, ea6, qa6⟩ := cs_i64 (a5 + (1))
  try simp only [ea6] at *
  omega
noncomputable def f122 : E := (.imp (.and (.not (.cmp .lss (.int 4096) (.fn 1 (.pr (.var 28) (.var 24))))) (.and (.fn 108 (.var 28)) (.and (.fn 107 (.var 28)) (.and (.fn 106 (.pr (.var 25) (.var 28))) (.and (.not (.cmp .lss (.var 29) (.var 26))) (.and (.not (.cmp .lss (.var 27) (.var 26))) (.and (.cmp .eql (.var 26) (.fn 0 (.var 28))) (.and (.not (.cmp .lss (.int 200) (.var 26))) (.and (.not (.cmp .lss (.var 26) (.int 1))) (.and (.not (.cmp .lss (.int 9) (.var 1))) (.and (.not (.cmp .lss (.var 1) (.int 1))) (.and (.not (.cmp .lss (.int 200) (.var 0))) (.and (.not (.cmp .lss (.var 0) (.int 0))) (.and (.fn 104 (.pr (.var 30) (.pr (.var 28) (.var 26)))) (.cmp .eql (.var 24) (.fn 7 (.pr (.var 26) (.int 1)))))))))))))))))) (.fn 33 (.pr (.var 30) (.fn 1 (.pr (.var 28) (.var 24))))))
theorem fact122 (ρ : Env) : E.B ρ f122 = true := by
  unfold f122
  rw [sm_B_imp]
  simp only [sm_B_and]
  rintro ⟨p0, p1, p2, p3, p4, p5, p6, p7, p8, p9, p10, p11, p12, p13, p14⟩
  exact t33 p13 (by first | omega | (simp only [smA, ints_len] at *; first | done | omega)) (by first | omega | (simp only [smA, ints_len] at *; first | done | omega)) (by first | omega | (simp only [smA, ints_len] at *; first | done | omega))
noncomputable def f123 : E := (.imp (.and (.cmp .eql (.var 31) (.fn 7 (.pr (.var 26) (.int 1)))) (.and (.not (.cmp .lss (.var 29) (.var 26))) (.and (.not (.cmp .lss (.var 27) (.var 26))) (.and (.cmp .eql (.var 26) (.fn 0 (.var 28))) (.and (.not (.cmp .lss (.int 200) (.var 26))) (.and (.not (.cmp .lss (.var 26) (.int 1))) (.cmp .eql (.var 24) (.fn 7 (.pr (.var 26) (.int 1)))))))))) (.cmp .lss (.fn 6 (.pr (.ar .sub .i64 (.var 24) (.int 1)) (.int 1))) (.var 26)))
theorem fact123 (ρ : Env) : E.B ρ f123 = true := by
  unfold f123
  rw [sm_B_imp]
  simp only [sm_B_and]
  rintro ⟨p0, p1, p2, p3, p4, p5, p6⟩
  try simp only [smA, smW] at *
  try generalize E.I ρ (.var 31) = a0 at *
  try generalize E.I ρ (.var 26) = a1 at *
  try generalize E.I ρ (.var 29) = a2 at *
  try generalize E.I ρ (.var 27) = a3 at *
  have na4 := fn0_nn (ρ := ρ) (.var 28)
  try generalize E.I ρ (.fn 0 (.var 28)) = a4 at *
  try generalize E.I ρ (.var 24) = a5 at *
  obtain ⟨a6, ea6, qa6⟩ := cs_i64 (a5 - (1))
  try simp only [ea6] at *
  omega
noncomputable def f124 : E := (.imp (.and (.fn 104 (.pr (.var 30) (.pr (.var 28) (.var 26)))) (.and (.fn 108 (.var 28)) (.and (.fn 107 (.var 28)) (.and (.fn 106 (.pr (.var 25) (.var 28))) (.and (.not (.cmp .lss (.var 1) (.int 1))) (.and (.not (.cmp .lss (.var 0) (.int 0))) (.and (.not (.cmp .lss (.var 29) (.var 26))) (.and (.not (.cmp .lss (.var 27) (.var 26))) (.and (.cmp .eql (.var 26) (.fn 0 (.var 28))) (.and (.not (.cmp .lss (.int 200) (.var 26))) (.and (.not (.cmp .lss (.var 26) (.int 1))) (.cmp .eql (.var 24) (.fn 7 (.pr (.var 26) (.int 1))))))))))))))) (.not (.cmp .lss (.int 4096) (.fn 1 (.pr (.var 28) (.var 24))))))
theorem fact124 (ρ : Env) : E.B ρ f124 = true := by
  unfold f124
  rw [sm_B_imp]
  simp only [sm_B_and]
  rintro ⟨p0, p1, p2, p3, p4, p5, p6, p7, p8, p9, p10, p11⟩
  have g0 := t107_nth p2 (i := (.var 24))
  clear p0 p1 p2 p3
  try simp only [smA, smW] at *
  try generalize E.I ρ (.var 1) = a0 at *
  try generalize E.I ρ (.var 0) = a1 at *
  try generalize E.I ρ (.var 29) = a2 at *
  try generalize E.I ρ (.var 26) = a3 at *
  try generalize E.I ρ (.var 27) = a4 at *
  have na5 := fn0_nn (ρ := ρ) (.var 28)
  try generalize E.I ρ (.fn 0 (.var 28)) = a5 at *
  try generalize E.I ρ (.var 24) = a6 at *
  try generalize E.I ρ (.fn 1 (.pr (.var 28) (.var 24))) = a7 at *
  omega
noncomputable def f125 : E := (.imp (.and (.cmp .eql (.var 36) (.fn 7 (.pr (.var 31) (.int 1)))) (.and (.not (.cmp .lss (.var 35) (.var 34))) (.and (.cmp .eql (.var 34) (.fn 0 (.var 33))) (.and (.cmp .eql (.fn 6 (.pr (.var 34) (.fn 6 (.pr (.var 24) (.int 1))))) (.var 26)) (.and (.not (.cmp .lss (.var 27) (.var 32))) (.and (.not (.cmp .lss (.var 32) (.var 31))) (.and (.cmp .eql (.var 31) (.fn 6 (.pr (.var 24) (.int 1)))) (.and (.cmp .lss (.fn 6 (.pr (.var 24) (.int 1))) (.var 26)) (.and (.not (.cmp .lss (.var 24) (.int (-1)))) (.and (.not (.cmp .lss (.int 200) (.var 34))) (.and (.not (.cmp .lss (.var 34) (.int 1))) (.and (.not (.cmp .lss (.var 26) (.var 31))) (.and (.not (.cmp .lss (.var 31) (.int 0))) (.and (.not (.cmp .lss (.var 29) (.var 26))) (.and (.not (.cmp .lss (.var 27) (.var 26))) (.and (.cmp .eql (.var 26) (.fn 0 (.var 28))) (.and (.not (.cmp .lss (.int 200) (.var 26))) (.not (.cmp .lss (.var 26) (.int 1)))))))))))))))))))) (.not (.cmp .lss (.var 26) (.fn 6 (.pr (.ar .add .i64 (.var 36) (.int 1)) (.fn 7 (.pr (.var 31) (.ar .add .i64 (.var 36) (.int 1)))))))))
theorem fact125 (ρ : Env) : E.B ρ f125 = true := by
  unfold f125
  rw [sm_B_imp]
  simp only [sm_B_and]
  rintro ⟨p0, p1, p2, p3, p4, p5, p6, p7, p8, p9, p10, p11, p12, p13, p14, p15, p16, p17⟩
  try simp only [smA, smW] at *
  try generalize E.I ρ (.var 36) = a0 at *
  try generalize E.I ρ (.var 31) = a1 at *
  try generalize E.I ρ (.var 35) = a2 at *
  try generalize E.I ρ (.var 34) = a3 at *
  have na4 := fn0_nn (ρ := ρ) (.var 33)
  try generalize E.I ρ (.fn 0 (.var 33)) = a4 at *
  try generalize E.I ρ (.var 24) = a5 at *
  try generalize E.I ρ (.var 26) = a6 at *
  try generalize E.I ρ (.var 27) = a7 at *
  try generalize E.I ρ (.var 32) = a8 at *
  try generalize E.I ρ (.var 29) = a9 at *
  have na10 := fn0_nn (ρ := ρ) (.var 28)
  try generalize E.I ρ (.fn 0 (.var 28)) = a10 at *
  obtain ⟨a11, ea11, qa11⟩ := cs_i64 (a0 + (1))
  try simp only [ea11] at *
  omega
noncomputable def f126 : E := (.imp (.and (.not (.cmp .lss (.var 0) (.var 8))) (.and (.not (.cmp .lss (.int 200) (.var 0))) (.and (.not (.cmp .lss (.var 0) (.int 0))) (.and (.not (.cmp .lss (.var 13) (.var 10))) (.and (.not (.cmp .lss (.var 11) (.var 10))) (.and (.cmp .eql (.var 10) (.fn 0 (.var 9))) (.and (.cmp .eql (.var 10) (.fn 7 (.pr (.var 8) (.int 1)))) (.and (.not (.cmp .lss (.fn 6 (.pr (.var 0) (.int 1))) (.var 8))) (.and (.not (.cmp .lss (.var 8) (.int 2))) (.and (.not (.cmp .lss (.int 200) (.var 10))) (.not (.cmp .lss (.var 10) (.int 1))))))))))))) (.not (.cmp .lss (.fn 7 (.pr (.fn 6 (.pr (.var 0) (.int 1))) (.ar .add .i64 (.var 8) (.int 1)))) (.int 0))))
theorem fact126 (ρ : Env) : E.B ρ f126 = true := by
  unfold f126
  rw [sm_B_imp]
  simp only [sm_B_and]
  rintro ⟨p0, p1, p2, p3, p4, p5, p6, p7, p8, p9, p10⟩
  try simp only [smA, smW] at *
  try generalize E.I ρ (.var 0) = a0 at *
  try generalize E.I ρ (.var 8) = a1 at *
  try generalize E.I ρ (.var 13) = a2 at *
  try generalize E.I ρ (.var 10) = a3 at *
  try generalize E.I ρ (.var 11) = a4 at *
  have na5 := fn0_nn (ρ := ρ) (.var 9)
  try generalize E.I ρ (.fn 0 (.var 9)) = a5 at *
  obtain ⟨a6, ea6, qa6⟩ := cs_i64 (a1 + (1))
  try simp only [ea6] at *
  omega
noncomputable def f127 : E := (.imp (.and (.fn 33 (.pr (.var 30) (.fn 1 (.pr (.var 28) (.var 24))))) (.and (.fn 108 (.var 28)) (.and (.fn 107 (.var 28)) (.and (.fn 106 (.pr (.var 25) (.var 28))) (.and (.not (.cmp .lss (.var 29) (.var 26))) (.and (.not (.cmp .lss (.var 27) (.var 26))) (.and (.cmp .eql (.var 26) (.fn 0 (.var 28))) (.and (.not (.cmp .lss (.int 200) (.var 26))) (.and (.not (.cmp .lss (.var 26) (.int 1))) (.and (.not (.cmp .lss (.int 9) (.var 1))) (.and (.not (.cmp .lss (.var 1) (.int 1))) (.and (.not (.cmp .lss (.int 200) (.var 0))) (.and (.not (.cmp .lss (.var 0) (.int 0))) (.and (.fn 104 (.pr (.var 30) (.pr (.var 28) (.var 26)))) (.cmp .eql (.var 24) (.fn 7 (.pr (.var 26) (.int 1)))))))))))))))))) (.fn 103 (.pr (.var 25) (.pr (.var 26) (.fn 1 (.pr (.var 28) (.var 24)))))))
theorem fact127 (ρ : Env) : E.B ρ f127 = true := by
  unfold f127
  rw [sm_B_imp]
  simp only [sm_B_and]
  rintro ⟨p0, p1, p2, p3, p4, p5, p6, p7, p8, p9, p10, p11, p12, p13, p14⟩
  first
    | exact t103_of p3 p1 (by first | omega | (simp only [smA, ints_len] at *; first | done | omega)) (by first | omega | (simp only [smA, ints_len] at *; first | done | omega)) (by first | omega | (simp only [smA, ints_len] at *; first | done | omega))
    | exact t103_one (by simp only [ints_app, ints_cons, ints_nil, ints_sub0, List.nil_append, List.append_nil, List.cons_append, sm_I_int]) (by first | omega | (simp only [smA, ints_len] at *; first | done | omega)) (by first | omega | (simp only [smA, ints_len] at *; first | done | omega))
noncomputable def f128 : E := (.imp (.and (.cmp .eql (.var 36) (.fn 7 (.pr (.var 31) (.int 1)))) (.and (.not (.cmp .lss (.var 35) (.var 34))) (.and (.cmp .eql (.var 34) (.fn 0 (.var 33))) (.and (.cmp .eql (.fn 6 (.pr (.var 34) (.fn 6 (.pr (.var 24) (.int 1))))) (.var 26)) (.and (.not (.cmp .lss (.var 27) (.var 32))) (.and (.not (.cmp .lss (.var 32) (.var 31))) (.and (.cmp .eql (.var 31) (.fn 6 (.pr (.var 24) (.int 1)))) (.and (.cmp .lss (.fn 6 (.pr (.var 24) (.int 1))) (.var 26)) (.and (.not (.cmp .lss (.var 24) (.int (-1)))) (.and (.not (.cmp .lss (.int 200) (.var 34))) (.and (.not (.cmp .lss (.var 34) (.int 1))) (.and (.not (.cmp .lss (.var 26) (.var 31))) (.and (.not (.cmp .lss (.var 31) (.int 0))) (.and (.not (.cmp .lss (.var 29) (.var 26))) (.and (.not (.cmp .lss (.var 27) (.var 26))) (.and (.cmp .eql (.var 26) (.fn 0 (.var 28))) (.and (.not (.cmp .lss (.int 200) (.var 26))) (.not (.cmp .lss (.var 26) (.int 1)))))))))))))))))))) (.not (.cmp .lss (.int 2147483648) (.fn 6 (.pr (.var 36) (.fn 7 (.pr (.var 31) (.ar .add .i64 (.var 36) (.int 1)))))))))
theorem fact128 (ρ : Env) : E.B ρ f128 = true := by
  unfold f128
  rw [sm_B_imp]
  simp only [sm_B_and]
  rintro ⟨p0, p1, p2, p3, p4, p5, p6, p7, p8, p9, p10, p11, p12, p13, p14, p15, p16, p17⟩
  try simp only [smA, smW] at *
  try generalize E.I ρ (.var 36) = a0 at *
  try generalize E.I ρ (.var 31) = a1 at *
  try generalize E.I ρ (.var 35) = a2 at *
  try generalize E.I ρ (.var 34) = a3 at *
  have na4 := fn0_nn (ρ := ρ) (.var 33)
  try generalize E.I ρ (.fn 0 (.var 33)) = a4 at *
  try generalize E.I ρ (.var 24) = a5 at *
  try generalize E.I ρ (.var 26) = a6 at *
  try generalize E.I ρ (.var 27) = a7 at *
  try generalize E.I ρ (.var 32) = a8 at *
  try generalize E.I ρ (.var 29) = a9 at *
  have na10 := fn0_nn (ρ := ρ) (.var 28)
  try generalize E.I ρ (.fn 0 (.var 28)) = a10 at *
  obtain ⟨a11, ea11, qa11⟩ := cs_i64 (a0 + (1))
  try simp only [ea11] at *
  omega
noncomputable def f129 : E := (.imp (.and (.fn 108 (.var 28)) (.and (.fn 107 (.var 28)) (.and (.fn 106 (.pr (.var 25) (.var 28))) (.and (.not (.cmp .lss (.var 29) (.var 26))) (.and (.not (.cmp .lss (.var 27) (.var 26))) (.and (.cmp .eql (.var 26) (.fn 0 (.var 28))) (.and (.not (.cmp .lss (.int 200) (.var 26))) (.and (.not (.cmp .lss (.var 26) (.int 1))) (.and (.not (.cmp .lss (.int 9) (.var 1))) (.and (.not (.cmp .lss (.var 1) (.int 1))) (.and (.not (.cmp .lss (.int 200) (.var 0))) (.and (.not (.cmp .lss (.var 0) (.int 0))) (.and (.fn 104 (.pr (.var 30) (.pr (.var 28) (.var 26)))) (.cmp .eql (.var 24) (.fn 7 (.pr (.var 26) (.int 1))))))))))))))))) (.fn 33 (.pr (.var 30) (.fn 1 (.pr (.var 28) (.var 24))))))
theorem fact129 (ρ : Env) : E.B ρ f129 = true := by
  unfold f129
  rw [sm_B_imp]
  simp only [sm_B_and]
  rintro ⟨p0, p1, p2, p3, p4, p5, p6, p7, p8, p9, p10, p11, p12, p13⟩
  exact t33 p12 (by first | omega | (simp only [smA, ints_len] at *; first | done | omega)) (by first | omega | (simp only [smA, ints_len] at *; first | done | omega)) (by first | omega | (simp only [smA, ints_len] at *; first | done | omega))
noncomputable def f130 : E := (.imp (.and (.cmp .eql (.var 31) (.fn 7 (.pr (.var 26) (.int 1)))) (.and (.not (.cmp .lss (.var 29) (.var 26))) (.and (.not (.cmp .lss (.var 27) (.var 26))) (.and (.cmp .eql (.var 26) (.fn 0 (.var 28))) (.and (.not (.cmp .lss (.int 200) (.var 26))) (.and (.not (.cmp .lss (.var 26) (.int 1))) (.cmp .eql (.var 24) (.fn 7 (.pr (.var 26) (.int 1)))))))))) (.cmp .eql (.var 31) (.fn 6 (.pr (.ar .sub .i64 (.var 24) (.int 1)) (.int 1)))))
theorem fact130 (ρ : Env) : E.B ρ f130 = true := by
  unfold f130
  rw [sm_B_imp]
  simp only [sm_B_and]
  rintro ⟨p0, p1, p2, p3, p4, p5, p6⟩
  try simp only [smA, smW] at *
  try generalize E.I ρ (.var 31) = a0 at *
  try generalize E.I ρ (.var 26) = a1 at *
  try generalize E.I ρ (.var 29) = a2 at *
  try generalize E.I ρ (.var 27) = a3 at *
  have na4 := fn0_nn (ρ := ρ) (.var 28)
  try generalize E.I ρ (.fn 0 (.var 28)) = a4 at *
  try generalize E.I ρ (.var 24) = a5 at *
  obtain ⟨a6, ea6, qa6⟩ := cs_i64 (a5 - (1))
  try simp only [ea6] at *
  omega
noncomputable def f131 : E := (.imp (.and (.cmp .eql (.var 36) (.fn 7 (.pr (.var 31) (.int 1)))) (.and (.not (.cmp .lss (.var 35) (.var 34))) (.and (.cmp .eql (.var 34) (.fn 0 (.var 33))) (.and (.cmp .eql (.fn 6 (.pr (.var 34) (.fn 6 (.pr (.var 24) (.int 1))))) (.var 26)) (.and (.not (.cmp .lss (.var 27) (.var 32))) (.and (.not (.cmp .lss (.var 32) (.var 31))) (.and (.cmp .eql (.var 31) (.fn 6 (.pr (.var 24) (.int 1)))) (.and (.cmp .lss (.fn 6 (.pr (.var 24) (.int 1))) (.var 26)) (.and (.not (.cmp .lss (.var 24) (.int (-1)))) (.and (.not (.cmp .lss (.int 200) (.var 34))) (.and (.not (.cmp .lss (.var 34) (.int 1))) (.and (.not (.cmp .lss (.var 26) (.var 31))) (.and (.not (.cmp .lss (.var 31) (.int 0))) (.and (.not (.cmp .lss (.var 29) (.var 26))) (.and (.not (.cmp .lss (.var 27) (.var 26))) (.and (.cmp .eql (.var 26) (.fn 0 (.var 28))) (.and (.not (.cmp .lss (.int 200) (.var 26))) (.not (.cmp .lss (.var 26) (.int 1)))))))))))))))))))) (.cmp .eql (.fn 7 (.pr (.var 31) (.ar .add .i64 (.var 36) (.int 1)))) (.int 0)))
theorem fact131 (ρ : Env) : E.B ρ f131 = true := by
  unfold f131
  rw [sm_B_imp]
  simp only [sm_B_and]
  rintro ⟨p0, p1, p2, p3, p4, p5, p6, p7, p8, p9, p10, p11, p12, p13, p14, p15, p16, p17⟩
  try simp only [smA, smW] at *
  try generalize E.I ρ (.var 36) = a0 at *
  try generalize E.I ρ (.var 31) = a1 at *
  try generalize E.I ρ (.var 35) = a2 at *
  try generalize E.I ρ (.var 34) = a3 at *
  have na4 := fn0_nn (ρ := ρ) (.var 33)
  try generalize E.I ρ (.fn 0 (.var 33)) = a4 at *
  try generalize E.I ρ (.var 24) = a5 at *
  try generalize E.I ρ (.var 26) = a6 at *
  try generalize E.I ρ (.var 27) = a7 at *
  try generalize E.I ρ (.var 32) = a8 at *
  try generalize E.I ρ (.var 29) = a9 at *
  have na10 := fn0_nn (ρ := ρ) (.var 28)
  try generalize E.I ρ (.fn 0 (.var 28)) = a10 at *
  obtain ⟨a11, ea11, qa11⟩ := cs_i64 (a0 + (1))
  try simp only [ea11] at *
  omega
noncomputable def f132 : E := (.imp (.and (.fn 108 (.var 28)) (.and (.fn 107 (.var 28)) (.and (.fn 106 (.pr (.var 25) (.var 28))) (.and (.not (.cmp .lss (.var 29) (.var 26))) (.and (.not (.cmp .lss (.var 27) (.var 26))) (.and (.cmp .eql (.var 26) (.fn 0 (.var 28))) (.and (.not (.cmp .lss (.int 200) (.var 26))) (.and (.not (.cmp .lss (.var 26) (.int 1))) (.and (.not (.cmp .lss (.int 9) (.var 1))) (.and (.not (.cmp .lss (.var 1) (.int 1))) (.and (.not (.cmp .lss (.int 200) (.var 0))) (.and (.not (.cmp .lss (.var 0) (.int 0))) (.and (.fn 104 (.pr (.var 30) (.pr (.var 28) (.var 26)))) (.cmp .eql (.var 24) (.fn 7 (.pr (.var 26) (.int 1))))))))))))))))) (.fn 103 (.pr (.var 25) (.pr (.var 26) (.fn 1 (.pr (.var 28) (.var 24)))))))
theorem fact132 (ρ : Env) : E.B ρ f132 = true := by
  unfold f132
  rw [sm_B_imp]
  simp only [sm_B_and]
  rintro ⟨p0, p1, p2, p3, p4, p5, p6, p7, p8, p9, p10, p11, p12, p13⟩
  first
    | exact t103_of p2 p0 (by first | omega | (simp only [smA, ints_len] at *; first | done | omega)) (by first | omega | (simp only [smA, ints_len] at *; first | done | omega)) (by first | omega | (simp only [smA, ints_len] at *; first | done | omega))
    | exact t103_one (by simp only [ints_app, ints_cons, ints_nil, ints_sub0, List.nil_append, List.append_nil, List.cons_append, sm_I_int]) (by first | omega | (simp only [smA, ints_len] at *; first | done | omega)) (by first | omega | (simp only [smA, ints_len] at *; first | done | omega))
noncomputable def f133 : E := (.imp (.and (.fn 105 (.pr (.var 33) (.pr (.var 28) (.fn 6 (.pr (.var 24) (.int 1)))))) (.and (.fn 104 (.pr (.var 30) (.pr (.var 28) (.fn 6 (.pr (.var 24) (.int 1)))))) (.and (.fn 108 (.var 28)) (.and (.fn 107 (.var 28)) (.and (.fn 106 (.pr (.var 25) (.var 28))) (.and (.not (.cmp .lss (.var 1) (.int 1))) (.and (.not (.cmp .lss (.var 0) (.int 0))) (.and (.not (.cmp .lss (.var 24) (.int 0))) (.and (.not (.cmp .lss (.var 35) (.var 34))) (.and (.cmp .eql (.var 34) (.fn 0 (.var 33))) (.and (.cmp .eql (.fn 6 (.pr (.var 34) (.fn 6 (.pr (.var 24) (.int 1))))) (.var 26)) (.and (.not (.cmp .lss (.var 27) (.var 32))) (.and (.not (.cmp .lss (.var 32) (.var 31))) (.and (.cmp .eql (.var 31) (.fn 6 (.pr (.var 24) (.int 1)))) (.and (.cmp .lss (.fn 6 (.pr (.var 24) (.int 1))) (.var 26)) (.and (.not (.cmp .lss (.var 24) (.int (-1)))) (.and (.not (.cmp .lss (.int 200) (.var 34))) (.and (.not (.cmp .lss (.var 34) (.int 1))) (.and (.not (.cmp .lss (.var 26) (.var 31))) (.and (.not (.cmp .lss (.var 31) (.int 0))) (.and (.not (.cmp .lss (.var 29) (.var 26))) (.and (.not (.cmp .lss (.var 27) (.var 26))) (.and (.cmp .eql (.var 26) (.fn 0 (.var 28))) (.and (.not (.cmp .lss (.int 200) (.var 26))) (.not (.cmp .lss (.var 26) (.int 1))))))))))))))))))))))))))) (.not (.cmp .lss (.fn 1 (.pr (.var 28) (.var 24))) (.int 1))))
theorem fact133 (ρ : Env) : E.B ρ f133 = true := by
  unfold f133
  rw [sm_B_imp]
  simp only [sm_B_and]
  rintro ⟨p0, p1, p2, p3, p4, p5, p6, p7, p8, p9, p10, p11, p12, p13, p14, p15, p16, p17, p18, p19, p20, p21, p22, p23, p24⟩
  have g0 := t107_nth p3 (i := (.var 24))
  clear p0 p1 p2 p3 p4
  try simp only [smA, smW] at *
  try generalize E.I ρ (.var 1) = a0 at *
  try generalize E.I ρ (.var 0) = a1 at *
  try generalize E.I ρ (.var 24) = a2 at *
  try generalize E.I ρ (.var 35) = a3 at *
  try generalize E.I ρ (.var 34) = a4 at *
  have na5 := fn0_nn (ρ := ρ) (.var 33)
  try generalize E.I ρ (.fn 0 (.var 33)) = a5 at *
  try generalize E.I ρ (.var 26) = a6 at *
  try generalize E.I ρ (.var 27) = a7 at *
  try generalize E.I ρ (.var 32) = a8 at *
  try generalize E.I ρ (.var 31) = a9 at *
  try generalize E.I ρ (.var 29) = a10 at *
  have na11 := fn0_nn (ρ := ρ) (.var 28)
  try generalize E.I ρ (.fn 0 (.var 28)) = a11 at *
  try generalize E.I ρ (.fn 1 (.pr (.var 28) (.var 24))) = a12 at *
  omega
noncomputable def f134 : E := (.imp (.and (.not (.cmp .lss (.var 24) (.int 0))) (.and (.not (.cmp .lss (.fn 1 (.pr (.var 28) (.var 24))) (.int 1))) (.and (.not (.cmp .lss (.int 4096) (.fn 1 (.pr (.var 28) (.var 24))))) (.and (.fn 105 (.pr (.var 33) (.pr (.var 28) (.fn 6 (.pr (.var 24) (.int 1)))))) (.and (.fn 104 (.pr (.var 30) (.pr (.var 28) (.fn 6 (.pr (.var 24) (.int 1)))))) (.and (.not (.cmp .lss (.var 35) (.var 34))) (.and (.cmp .eql (.var 34) (.fn 0 (.var 33))) (.and (.cmp .eql (.fn 6 (.pr (.var 34) (.fn 6 (.pr (.var 24) (.int 1))))) (.var 26)) (.and (.not (.cmp .lss (.var 27) (.var 32))) (.and (.not (.cmp .lss (.var 32) (.var 31))) (.and (.cmp .eql (.var 31) (.fn 6 (.pr (.var 24) (.int 1)))) (.and (.cmp .lss (.fn 6 (.pr (.var 24) (.int 1))) (.var 26)) (.and (.not (.cmp .lss (.var 24) (.int (-1)))) (.and (.not (.cmp .lss (.int 200) (.var 34))) (.and (.not (.cmp .lss (.var 34) (.int 1))) (.and (.not (.cmp .lss (.var 26) (.var 31))) (.and (.not (.cmp .lss (.var 31) (.int 0))) (.and (.fn 108 (.var 28)) (.and (.fn 107 (.var 28)) (.and (.fn 106 (.pr (.var 25) (.var 28))) (.and (.not (.cmp .lss (.var 29) (.var 26))) (.and (.not (.cmp .lss (.var 27) (.var 26))) (.and (.cmp .eql (.var 26) (.fn 0 (.var 28))) (.and (.not (.cmp .lss (.int 200) (.var 26))) (.and (.not (.cmp .lss (.var 26) (.int 1))) (.and (.not (.cmp .lss (.int 9) (.var 1))) (.and (.not (.cmp .lss (.var 1) (.int 1))) (.and (.not (.cmp .lss (.int 200) (.var 0))) (.not (.cmp .lss (.var 0) (.int 0))))))))))))))))))))))))))))))) (.fn 33 (.pr (.var 30) (.fn 1 (.pr (.var 28) (.var 24))))))
theorem fact134 (ρ : Env) : E.B ρ f134 = true := by
  unfold f134
  rw [sm_B_imp]
  simp only [sm_B_and]
  rintro ⟨p0, p1, p2, p3, p4, p5, p6, p7, p8, p9, p10, p11, p12, p13, p14, p15, p16, p17, p18, p19, p20, p21, p22, p23, p24, p25, p26, p27, p28⟩
  exact t33 p4 (by first | omega | (simp only [smA, ints_len] at *; first | done | omega)) (by first | omega | (simp only [smA, ints_len] at *; first | done | omega)) (by first | omega | (simp only [smA, ints_len] at *; first | done | omega))
noncomputable def f135 : E := (.imp (.and (.not (.cmp .lss (.var 24) (.int 0))) (.and (.not (.cmp .lss (.var 35) (.var 34))) (.and (.cmp .eql (.var 34) (.fn 0 (.var 33))) (.and (.cmp .eql (.fn 6 (.pr (.var 34) (.fn 6 (.pr (.var 24) (.int 1))))) (.var 26)) (.and (.not (.cmp .lss (.var 27) (.var 32))) (.and (.not (.cmp .lss (.var 32) (.var 31))) (.and (.cmp .eql (.var 31) (.fn 6 (.pr (.var 24) (.int 1)))) (.and (.cmp .lss (.fn 6 (.pr (.var 24) (.int 1))) (.var 26)) (.and (.not (.cmp .lss (.var 24) (.int (-1)))) (.and (.not (.cmp .lss (.int 200) (.var 34))) (.and (.not (.cmp .lss (.var 34) (.int 1))) (.and (.not (.cmp .lss (.var 26) (.var 31))) (.and (.not (.cmp .lss (.var 31) (.int 0))) (.and (.not (.cmp .lss (.var 29) (.var 26))) (.and (.not (.cmp .lss (.var 27) (.var 26))) (.and (.cmp .eql (.var 26) (.fn 0 (.var 28))) (.and (.not (.cmp .lss (.int 200) (.var 26))) (.not (.cmp .lss (.var 26) (.int 1)))))))))))))))))))) (.not (.cmp .lss (.int 200) (.fn 6 (.pr (.var 34) (.int 1))))))
theorem fact135 (ρ : Env) : E.B ρ f135 = true := by
  unfold f135
  rw [sm_B_imp]
  simp only [sm_B_and]
  rintro ⟨p0, p1, p2, p3, p4, p5, p6, p7, p8, p9, p10, p11, p12, p13, p14, p15, p16, p17⟩
  try simp only [smA, smW] at *
  try generalize E.I ρ (.var 24) = a0 at *
  try generalize E.I ρ (.var 35) = a1 at *
  try generalize E.I ρ (.var 34) = a2 at *
  have na3 := fn0_nn (ρ := ρ) (.var 33)
  try generalize E.I ρ (.fn 0 (.var 33)) = a3 at *
  try generalize E.I ρ (.var 26) = a4 at *
  try generalize E.I ρ (.var 27) = a5 at *
  try generalize E.I ρ (.var 32) = a6 at *
  try generalize E.I ρ (.var 31) = a7 at *
  try generalize E.I ρ (.var 29) = a8 at *
  have na9 := fn0_nn (ρ := ρ) (.var 28)
  try generalize E.I ρ (.fn 0 (.var 28)) = a9 at *
  omega
noncomputable def f136 : E := (.imp (.and (.fn 105 (.pr (.var 33) (.pr (.var 28) (.fn 6 (.pr (.var 24) (.int 1)))))) (.and (.fn 104 (.pr (.var 30) (.pr (.var 28) (.fn 6 (.pr (.var 24) (.int 1)))))) (.and (.fn 108 (.var 28)) (.and (.fn 107 (.var 28)) (.and (.fn 106 (.pr (.var 25) (.var 28))) (.and (.not (.cmp .lss (.var 1) (.int 1))) (.and (.not (.cmp .lss (.var 0) (.int 0))) (.and (.not (.cmp .lss (.var 24) (.int 0))) (.and (.not (.cmp .lss (.fn 1 (.pr (.var 28) (.var 24))) (.int 1))) (.and (.not (.cmp .lss (.var 35) (.var 34))) (.and (.cmp .eql (.var 34) (.fn 0 (.var 33))) (.and (.cmp .eql (.fn 6 (.pr (.var 34) (.fn 6 (.pr (.var 24) (.int 1))))) (.var 26)) (.and (.not (.cmp .lss (.var 27) (.var 32))) (.and (.not (.cmp .lss (.var 32) (.var 31))) (.and (.cmp .eql (.var 31) (.fn 6 (.pr (.var 24) (.int 1)))) (.and (.cmp .lss (.fn 6 (.pr (.var 24) (.int 1))) (.var 26)) (.and (.not (.cmp .lss (.var 24) (.int (-1)))) (.and (.not (.cmp .lss (.int 200) (.var 34))) (.and (.not (.cmp .lss (.var 34) (.int 1))) (.and (.not (.cmp .lss (.var 26) (.var 31))) (.and (.not (.cmp .lss (.var 31) (.int 0))) (.and (.not (.cmp .lss (.var 29) (.var 26))) (.and (.not (.cmp .lss (.var 27) (.var 26))) (.and (.cmp .eql (.var 26) (.fn 0 (.var 28))) (.and (.not (.cmp .lss (.int 200) (.var 26))) (.not (.cmp .lss (.var 26) (.int 1)))))))))))))))))))))))))))) (.not (.cmp .lss (.int 4096) (.fn 1 (.pr (.var 28) (.var 24))))))
theorem fact136 (ρ : Env) : E.B ρ f136 = true := by
  unfold f136
  rw [sm_B_imp]
  simp only [sm_B_and]
  rintro ⟨p0, p1, p2, p3, p4, p5, p6, p7, p8, p9, p10, p11, p12, p13, p14, p15, p16, p17, p18, p19, p20, p21, p22, p23, p24, p25⟩
  have g0 := t107_nth p3 (i := (.var 24))
  clear p0 p1 p2 p3 p4
  try simp only [smA, smW] at *
  try generalize E.I ρ (.var 1) = a0 at *
  try generalize E.I ρ (.var 0) = a1 at *
  try generalize E.I ρ (.var 24) = a2 at *
  try generalize E.I ρ (.fn 1 (.pr (.var 28) (.var 24))) = a3 at *
  try generalize E.I ρ (.var 35) = a4 at *
  try generalize E.I ρ (.var 34) = a5 at *
  have na6 := fn0_nn (ρ := ρ) (.var 33)
  try generalize E.I ρ (.fn 0 (.var 33)) = a6 at *
  try generalize E.I ρ (.var 26) = a7 at *
  try generalize E.I ρ (.var 27) = a8 at *
  try generalize E.I ρ (.var 32) = a9 at *
  try generalize E.I ρ (.var 31) = a10 at *
  try generalize E.I ρ (.var 29) = a11 at *
  have na12 := fn0_nn (ρ := ρ) (.var 28)
  try generalize E.I ρ (.fn 0 (.var 28)) = a12 at *
  omega
noncomputable def f137 : E := (.imp (.and (.fn 104 (.pr (.var 30) (.pr (.var 28) (.var 26)))) (.and (.fn 108 (.var 28)) (.and (.fn 107 (.var 28)) (.and (.fn 106 (.pr (.var 25) (.var 28))) (.and (.not (.cmp .lss (.var 1) (.int 1))) (.and (.not (.cmp .lss (.var 0) (.int 0))) (.and (.cmp .eql (.var 31) (.fn 7 (.pr (.var 26) (.int 1)))) (.and (.cmp .eql (.var 27) (.ar .add .i64 (.var 31) (.int 1))) (.and (.not (.cmp .lss (.var 29) (.var 26))) (.and (.not (.cmp .lss (.var 27) (.var 26))) (.and (.cmp .eql (.var 26) (.fn 0 (.var 28))) (.and (.not (.cmp .lss (.int 200) (.var 26))) (.and (.not (.cmp .lss (.var 26) (.int 1))) (.cmp .eql (.var 24) (.fn 7 (.pr (.var 26) (.int 1))))))))))))))))) (.not (.cmp .lss (.var 31) (.int 0))))
theorem fact137 (ρ : Env) : E.B ρ f137 = true := by
  unfold f137
  rw [sm_B_imp]
  simp only [sm_B_and]
  rintro ⟨p0, p1, p2, p3, p4, p5, p6, p7, p8, p9, p10, p11, p12, p13⟩
  clear p0 p1 p2 p3
  try simp only [smA, smW] at *
  try generalize E.I ρ (.var 1) = a0 at *
  try generalize E.I ρ (.var 0) = a1 at *
  try generalize E.I ρ (.var 31) = a2 at *
  try generalize E.I ρ (.var 26) = a3 at *
  try generalize E.I ρ (.var 27) = a4 at *
  try generalize E.I ρ (.var 29) = a5 at *
  have na6 := fn0_nn (ρ := ρ) (.var 28)
  try generalize E.I ρ (.fn 0 (.var 28)) = a6 at *
  try generalize E.I ρ (.var 24) = a7 at *
  obtain ⟨a8, ea8, qa8⟩ := cs_i64 (a2 + (1))
  try simp only [ea8] at *
  omega
noncomputable def f138 : E := (.imp (.and (.fn 104 (.pr (.var 30) (.pr (.var 28) (.var 26)))) (.and (.fn 108 (.var 28)) (.and (.fn 107 (.var 28)) (.and (.fn 106 (.pr (.var 25) (.var 28))) (.and (.not (.cmp .lss (.var 1) (.int 1))) (.and (.not (.cmp .lss (.var 0) (.int 0))) (.and (.cmp .eql (.var 31) (.fn 7 (.pr (.var 26) (.int 1)))) (.and (.not (.cmp .eql (.var 27) (.ar .add .i64 (.var 31) (.int 1)))) (.and (.not (.cmp .lss (.var 29) (.var 26))) (.and (.not (.cmp .lss (.var 27) (.var 26))) (.and (.cmp .eql (.var 26) (.fn 0 (.var 28))) (.and (.not (.cmp .lss (.int 200) (.var 26))) (.and (.not (.cmp .lss (.var 26) (.int 1))) (.cmp .eql (.var 24) (.fn 7 (.pr (.var 26) (.int 1))))))))))))))))) (.not (.cmp .lss (.var 31) (.int 0))))
theorem fact138 (ρ : Env) : E.B ρ f138 = true := by
  unfold f138
  rw [sm_B_imp]
  simp only [sm_B_and]
  rintro ⟨p0, p1, p2, p3, p4, p5, p6, p7, p8, p9, p10, p11, p12, p13⟩
  clear p0 p1 p2 p3
  try simp only [smA, smW] at *
  try generalize E.I ρ (.var 1) = a0 at *
  try generalize E.I ρ (.var 0) = a1 at *
  try generalize E.I ρ (.var 31) = a2 at *
  try generalize E.I ρ (.var 26) = a3 at *
  try generalize E.I ρ (.var 27) = a4 at *
  try generalize E.I ρ (.var 29) = a5 at *
  have na6 := fn0_nn (ρ := ρ) (.var 28)
  try generalize E.I ρ (.fn 0 (.var 28)) = a6 at *
  try generalize E.I ρ (.var 24) = a7 at *
  obtain ⟨a8, ea8, qa8⟩ := cs_i64 (a2 + (1))
  try simp only [ea8] at *
  omega
noncomputable def f139 : E := (.imp (.and (.not (.cmp .lss (.var 24) (.int 0))) (.and (.not (.cmp .lss (.int 4096) (.fn 1 (.pr (.var 28) (.var 24))))) (.and (.fn 33 (.pr (.var 30) (.fn 1 (.pr (.var 28) (.var 24))))) (.and (.fn 105 (.pr (.var 33) (.pr (.var 28) (.fn 6 (.pr (.var 24) (.int 1)))))) (.and (.fn 104 (.pr (.var 30) (.pr (.var 28) (.fn 6 (.pr (.var 24) (.int 1)))))) (.and (.not (.cmp .lss (.var 35) (.var 34))) (.and (.cmp .eql (.var 34) (.fn 0 (.var 33))) (.and (.cmp .eql (.fn 6 (.pr (.var 34) (.fn 6 (.pr (.var 24) (.int 1))))) (.var 26)) (.and (.not (.cmp .lss (.var 27) (.var 32))) (.and (.not (.cmp .lss (.var 32) (.var 31))) (.and (.cmp .eql (.var 31) (.fn 6 (.pr (.var 24) (.int 1)))) (.and (.cmp .lss (.fn 6 (.pr (.var 24) (.int 1))) (.var 26)) (.and (.not (.cmp .lss (.var 24) (.int (-1)))) (.and (.not (.cmp .lss (.int 200) (.var 34))) (.and (.not (.cmp .lss (.var 34) (.int 1))) (.and (.not (.cmp .lss (.var 26) (.var 31))) (.and (.not (.cmp .lss (.var 31) (.int 0))) (.and (.fn 108 (.var 28)) (.and (.fn 107 (.var 28)) (.and (.fn 106 (.pr (.var 25) (.var 28))) (.and (.not (.cmp .lss (.var 29) (.var 26))) (.and (.not (.cmp .lss (.var 27) (.var 26))) (.and (.cmp .eql (.var 26) (.fn 0 (.var 28))) (.and (.not (.cmp .lss (.int 200) (.var 26))) (.and (.not (.cmp .lss (.var 26) (.int 1))) (.and (.not (.cmp .lss (.int 9) (.var 1))) (.and (.not (.cmp .lss (.var 1) (.int 1))) (.and (.not (.cmp .lss (.int 200) (.var 0))) (.not (.cmp .lss (.var 0) (.int 0))))))))))))))))))))))))))))))) (.fn 103 (.pr (.var 25) (.pr (.var 31) (.fn 1 (.pr (.var 28) (.var 24)))))))
theorem fact139 (ρ : Env) : E.B ρ f139 = true := by
  unfold f139
  rw [sm_B_imp]
  simp only [sm_B_and]
  rintro ⟨p0, p1, p2, p3, p4, p5, p6, p7, p8, p9, p10, p11, p12, p13, p14, p15, p16, p17, p18, p19, p20, p21, p22, p23, p24, p25, p26, p27, p28⟩
  first
    | exact t103_of p19 p17 (by first | omega | (simp only [smA, ints_len] at *; first | done | omega)) (by first | omega | (simp only [smA, ints_len] at *; first | done | omega)) (by first | omega | (simp only [smA, ints_len] at *; first | done | omega))
    | exact t103_one (by simp only [ints_app, ints_cons, ints_nil, ints_sub0, List.nil_append, List.append_nil, List.cons_append, sm_I_int]) (by first | omega | (simp only [smA, ints_len] at *; first | done | omega)) (by first | omega | (simp only [smA, ints_len] at *; first | done | omega))
noncomputable def f140 : E := (.imp (.and (.cmp .eql (.var 31) (.fn 7 (.pr (.var 26) (.int 1)))) (.and (.not (.cmp .lss (.var 29) (.var 26))) (.and (.not (.cmp .lss (.var 27) (.var 26))) (.and (.cmp .eql (.var 26) (.fn 0 (.var 28))) (.and (.not (.cmp .lss (.int 200) (.var 26))) (.and (.not (.cmp .lss (.var 26) (.int 1))) (.cmp .eql (.var 24) (.fn 7 (.pr (.var 26) (.int 1)))))))))) (.cmp .eql (.fn 6 (.pr (.int 1) (.fn 6 (.pr (.ar .sub .i64 (.var 24) (.int 1)) (.int 1))))) (.var 26)))
theorem fact140 (ρ : Env) : E.B ρ f140 = true := by
  unfold f140
  rw [sm_B_imp]
  simp only [sm_B_and]
  rintro ⟨p0, p1, p2, p3, p4, p5, p6⟩
  try simp only [smA, smW] at *
  try generalize E.I ρ (.var 31) = a0 at *
  try generalize E.I ρ (.var 26) = a1 at *
  try generalize E.I ρ (.var 29) = a2 at *
  try generalize E.I ρ (.var 27) = a3 at *
  have na4 := fn0_nn (ρ := ρ) (.var 28)
  try generalize E.I ρ (.fn 0 (.var 28)) = a4 at *
  try generalize E.I ρ (.var 24) = a5 at *
  obtain ⟨a6, ea6, qa6⟩ := cs_i64 (a5 - (1))
  try simp only [ea6] at *
  omega
noncomputable def f141 : E := (.imp (.and (.fn 105 (.pr (.var 33) (.pr (.var 28) (.fn 6 (.pr (.var 24) (.int 1)))))) (.and (.fn 104 (.pr (.var 30) (.pr (.var 28) (.fn 6 (.pr (.var 24) (.int 1)))))) (.and (.not (.cmp .lss (.var 35) (.var 34))) (.and (.cmp .eql (.var 34) (.fn 0 (.var 33))) (.and (.cmp .eql (.fn 6 (.pr (.var 34) (.fn 6 (.pr (.var 24) (.int 1))))) (.var 26)) (.and (.not (.cmp .lss (.var 27) (.var 32))) (.and (.not (.cmp .lss (.var 32) (.var 31))) (.and (.cmp .eql (.var 31) (.fn 6 (.pr (.var 24) (.int 1)))) (.and (.cmp .lss (.fn 6 (.pr (.var 24) (.int 1))) (.var 26)) (.and (.not (.cmp .lss (.var 24) (.int (-1)))) (.and (.not (.cmp .lss (.int 200) (.var 34))) (.and (.not (.cmp .lss (.var 34) (.int 1))) (.and (.not (.cmp .lss (.var 26) (.var 31))) (.and (.not (.cmp .lss (.var 31) (.int 0))) (.and (.fn 108 (.var 28)) (.and (.fn 107 (.var 28)) (.and (.fn 106 (.pr (.var 25) (.var 28))) (.and (.not (.cmp .lss (.var 29) (.var 26))) (.and (.not (.cmp .lss (.var 27) (.var 26))) (.and (.cmp .eql (.var 26) (.fn 0 (.var 28))) (.and (.not (.cmp .lss (.var 26) (.int 1))) (.and (.not (.cmp .lss (.var 1) (.int 1))) (.and (.not (.cmp .lss (.var 0) (.int 0))) (.and (.not (.cmp .lss (.var 24) (.int 0))) (.and (.not (.cmp .lss (.int 4096) (.fn 1 (.pr (.var 28) (.var 24))))) (.and (.fn 33 (.pr (.var 30) (.fn 1 (.pr (.var 28) (.var 24))))) (.and (.cmp .eql (.var 36) (.fn 7 (.pr (.var 31) (.int 1)))) (.not (.cmp .lss (.int 200) (.var 26)))))))))))))))))))))))))))))) (.not (.cmp .lss (.var 36) (.int 0))))
theorem fact141 (ρ : Env) : E.B ρ f141 = true := by
  unfold f141
  rw [sm_B_imp]
  simp only [sm_B_and]
  rintro ⟨p0, p1, p2, p3, p4, p5, p6, p7, p8, p9, p10, p11, p12, p13, p14, p15, p16, p17, p18, p19, p20, p21, p22, p23, p24, p25, p26, p27⟩
  have g0 := t107_nth p15 (i := (.var 24))
  clear p0 p1 p14 p15 p16 p25
  try simp only [smA, smW] at *
  try generalize E.I ρ (.var 35) = a0 at *
  try generalize E.I ρ (.var 34) = a1 at *
  have na2 := fn0_nn (ρ := ρ) (.var 33)
  try generalize E.I ρ (.fn 0 (.var 33)) = a2 at *
  try generalize E.I ρ (.var 24) = a3 at *
  try generalize E.I ρ (.var 26) = a4 at *
  try generalize E.I ρ (.var 27) = a5 at *
  try generalize E.I ρ (.var 32) = a6 at *
  try generalize E.I ρ (.var 31) = a7 at *
  try generalize E.I ρ (.var 29) = a8 at *
  have na9 := fn0_nn (ρ := ρ) (.var 28)
  try generalize E.I ρ (.fn 0 (.var 28)) = a9 at *
  try generalize E.I ρ (.var 1) = a10 at *
  try generalize E.I ρ (.var 0) = a11 at *
  try generalize E.I ρ (.fn 1 (.pr (.var 28) (.var 24))) = a12 at *
  try generalize E.I ρ (.var 36) = a13 at *
  omega
noncomputable def f142 : E := (.imp (.and (.fn 105 (.pr (.var 33) (.pr (.var 28) (.fn 6 (.pr (.var 24) (.int 1)))))) (.and (.fn 104 (.pr (.var 30) (.pr (.var 28) (.fn 6 (.pr (.var 24) (.int 1)))))) (.and (.not (.cmp .lss (.var 35) (.var 34))) (.and (.cmp .eql (.var 34) (.fn 0 (.var 33))) (.and (.cmp .eql (.fn 6 (.pr (.var 34) (.fn 6 (.pr (.var 24) (.int 1))))) (.var 26)) (.and (.not (.cmp .lss (.var 27) (.var 32))) (.and (.not (.cmp .lss (.var 32) (.var 31))) (.and (.cmp .eql (.var 31) (.fn 6 (.pr (.var 24) (.int 1)))) (.and (.cmp .lss (.fn 6 (.pr (.var 24) (.int 1))) (.var 26)) (.and (.not (.cmp .lss (.var 24) (.int (-1)))) (.and (.not (.cmp .lss (.int 200) (.var 34))) (.and (.not (.cmp .lss (.var 34) (.int 1))) (.and (.not (.cmp .lss (.var 26) (.var 31))) (.and (.not (.cmp .lss (.var 31) (.int 0))) (.and (.fn 108 (.var 28)) (.and (.fn 107 (.var 28)) (.and (.fn 106 (.pr (.var 25) (.var 28))) (.and (.not (.cmp .lss (.var 29) (.var 26))) (.and (.not (.cmp .lss (.var 27) (.var 26))) (.and (.cmp .eql (.var 26) (.fn 0 (.var 28))) (.and (.not (.cmp .lss (.var 26) (.int 1))) (.and (.not (.cmp .lss (.var 1) (.int 1))) (.and (.not (.cmp .lss (.var 0) (.int 0))) (.and (.not (.cmp .lss (.var 24) (.int 0))) (.and (.not (.cmp .lss (.int 4096) (.fn 1 (.pr (.var 28) (.var 24))))) (.and (.fn 33 (.pr (.var 30) (.fn 1 (.pr (.var 28) (.var 24))))) (.and (.cmp .eql (.var 36) (.fn 7 (.pr (.var 31) (.int 1)))) (.not (.cmp .lss (.int 200) (.var 26)))))))))))))))))))))))))))))) (.not (.cmp .lss (.ar .add .i64 (.var 36) (.int 1)) (.int 0))))
theorem fact142 (ρ : Env) : E.B ρ f142 = true := by
  unfold f142
  rw [sm_B_imp]
  simp only [sm_B_and]
  rintro ⟨p0, p1, p2, p3, p4, p5, p6, p7, p8, p9, p10, p11, p12, p13, p14, p15, p16, p17, p18, p19, p20, p21, p22, p23, p24, p25, p26, p27⟩
  have g0 := t107_nth p15 (i := (.var 24))
  obtain ⟨v0, ev0, qv0⟩ := cs_i64 (E.I ρ (.var 36) + E.I ρ (.int 1))
  have ew0 : E.I ρ (.ar .add .i64 (.var 36) (.int 1)) = v0 := ev0
  try simp only [ew0] at g0
  clear p0 p1 p14 p15 p16 p25
  try simp only [smA, smW] at *
  try generalize E.I ρ (.var 35) = a0 at *
  try generalize E.I ρ (.var 34) = a1 at *
  have na2 := fn0_nn (ρ := ρ) (.var 33)
  try generalize E.I ρ (.fn 0 (.var 33)) = a2 at *
  try generalize E.I ρ (.var 24) = a3 at *
  try generalize E.I ρ (.var 26) = a4 at *
  try generalize E.I ρ (.var 27) = a5 at *
  try generalize E.I ρ (.var 32) = a6 at *
  try generalize E.I ρ (.var 31) = a7 at *
  try generalize E.I ρ (.var 29) = a8 at *
  have na9 := fn0_nn (ρ := ρ) (.var 28)
  try generalize E.I ρ (.fn 0 (.var 28)) = a9 at *
  try generalize E.I ρ (.var 1) = a10 at *
  try generalize E.I ρ (.var 0) = a11 at *
  try generalize E.I ρ (.fn 1 (.pr (.var 28) (.var 24))) = a12 at *
  try generalize E.I ρ (.var 36) = a13 at *
  obtain ⟨a14, ea14, qa14⟩ := cs_i64 (a13 + (1))
  try simp only [ea14] at *
  omega
noncomputable def f143 : E := (.imp (.and (.cmp .eql (.var 31) (.fn 7 (.pr (.var 26) (.int 1)))) (.and (.not (.cmp .eql (.var 27) (.ar .add .i64 (.var 31) (.int 1)))) (.and (.not (.cmp .lss (.var 32) (.int 0))) (.and (.not (.cmp .lss (.var 32) (.int 1))) (.and (.fn 108 (.var 28)) (.and (.fn 107 (.var 28)) (.and (.fn 106 (.pr (.var 25) (.var 28))) (.and (.not (.cmp .lss (.var 29) (.var 26))) (.and (.not (.cmp .lss (.var 27) (.var 26))) (.and (.cmp .eql (.var 26) (.fn 0 (.var 28))) (.and (.not (.cmp .lss (.int 200) (.var 26))) (.and (.not (.cmp .lss (.var 26) (.int 1))) (.and (.not (.cmp .lss (.int 9) (.var 1))) (.and (.not (.cmp .lss (.var 1) (.int 1))) (.and (.not (.cmp .lss (.int 200) (.var 0))) (.and (.not (.cmp .lss (.var 0) (.int 0))) (.and (.fn 104 (.pr (.var 30) (.pr (.var 28) (.var 26)))) (.cmp .eql (.var 24) (.fn 7 (.pr (.var 26) (.int 1))))))))))))))))))))) (.fn 104 (.pr (.fn 34 (.pr (.fn 35 (.pr (.var 30) (.fn 1 (.pr (.var 28) (.var 24))))) (.pr (.fn 1 (.pr (.var 28) (.var 24))) (.int 1)))) (.pr (.var 28) (.fn 6 (.pr (.ar .sub .i64 (.var 24) (.int 1)) (.int 1)))))))
theorem fact143 (ρ : Env) : E.B ρ f143 = true := by
  unfold f143
  rw [sm_B_imp]
  simp only [sm_B_and]
  rintro ⟨p0, p1, p2, p3, p4, p5, p6, p7, p8, p9, p10, p11, p12, p13, p14, p15, p16, p17⟩
  obtain ⟨v0, ev0, qv0⟩ := cs_i64 (E.I ρ (.var 31) + E.I ρ (.int 1))
  have ew0 : E.I ρ (.ar .add .i64 (.var 31) (.int 1)) = v0 := ev0
  obtain ⟨v1, ev1, qv1⟩ := cs_i64 (E.I ρ (.var 24) - E.I ρ (.int 1))
  have ew1 : E.I ρ (.ar .sub .i64 (.var 24) (.int 1)) = v1 := ev1
  first
    | exact t104_step (i := (.var 24)) p16 p4 (by first | omega | (simp only [smA, ints_len, ew0, ew1] at *; first | done | omega)) (by first | omega | (simp only [smA, ints_len, ew0, ew1] at *; first | done | omega)) (by first | omega | (simp only [smA, ints_len, ew0, ew1] at *; first | done | omega)) (by first | omega | (simp only [smA, ints_len, ew0, ew1] at *; first | done | omega))
    | exact t104_none (by first | omega | (simp only [smA, ints_len, ew0, ew1] at *; first | done | omega))
noncomputable def f144 : E := (.imp (.and (.cmp .eql (.var 31) (.fn 7 (.pr (.var 26) (.int 1)))) (.and (.cmp .eql (.var 27) (.ar .add .i64 (.var 31) (.int 1))) (.and (.not (.cmp .lss (.var 32) (.int 0))) (.and (.not (.cmp .lss (.var 32) (.int 1))) (.and (.fn 108 (.var 28)) (.and (.fn 107 (.var 28)) (.and (.fn 106 (.pr (.var 25) (.var 28))) (.and (.not (.cmp .lss (.var 29) (.var 26))) (.and (.not (.cmp .lss (.var 27) (.var 26))) (.and (.cmp .eql (.var 26) (.fn 0 (.var 28))) (.and (.not (.cmp .lss (.int 200) (.var 26))) (.and (.not (.cmp .lss (.var 26) (.int 1))) (.and (.not (.cmp .lss (.int 9) (.var 1))) (.and (.not (.cmp .lss (.var 1) (.int 1))) (.and (.not (.cmp .lss (.int 200) (.var 0))) (.and (.not (.cmp .lss (.var 0) (.int 0))) (.and (.fn 104 (.pr (.var 30) (.pr (.var 28) (.var 26)))) (.cmp .eql (.var 24) (.fn 7 (.pr (.var 26) (.int 1))))))))))))))))))))) (.fn 104 (.pr (.fn 34 (.pr (.fn 35 (.pr (.var 30) (.fn 1 (.pr (.var 28) (.var 24))))) (.pr (.fn 1 (.pr (.var 28) (.var 24))) (.int 1)))) (.pr (.var 28) (.fn 6 (.pr (.ar .sub .i64 (.var 24) (.int 1)) (.int 1)))))))
theorem fact144 (ρ : Env) : E.B ρ f144 = true := by
  unfold f144
  rw [sm_B_imp]
  simp only [sm_B_and]
  rintro ⟨p0, p1, p2, p3, p4, p5, p6, p7, p8, p9, p10, p11, p12, p13, p14, p15, p16, p17⟩
  obtain ⟨v0, ev0, qv0⟩ := cs_i64 (E.I ρ (.var 31) + E.I ρ (.int 1))
  have ew0 : E.I ρ (.ar .add .i64 (.var 31) (.int 1)) = v0 := ev0
  obtain ⟨v1, ev1, qv1⟩ := cs_i64 (E.I ρ (.var 24) - E.I ρ (.int 1))
  have ew1 : E.I ρ (.ar .sub .i64 (.var 24) (.int 1)) = v1 := ev1
  first
    | exact t104_step (i := (.var 24)) p16 p4 (by first | omega | (simp only [smA, ints_len, ew0, ew1] at *; first | done | omega)) (by first | omega | (simp only [smA, ints_len, ew0, ew1] at *; first | done | omega)) (by first | omega | (simp only [smA, ints_len, ew0, ew1] at *; first | done | omega)) (by first | omega | (simp only [smA, ints_len, ew0, ew1] at *; first | done | omega))
    | exact t104_none (by first | omega | (simp only [smA, ints_len, ew0, ew1] at *; first | done | omega))
noncomputable def f145 : E := (.imp (.and (.fn 105 (.pr (.var 33) (.pr (.var 28) (.fn 6 (.pr (.var 24) (.int 1)))))) (.and (.fn 104 (.pr (.var 30) (.pr (.var 28) (.fn 6 (.pr (.var 24) (.int 1)))))) (.and (.not (.cmp .lss (.var 35) (.var 34))) (.and (.cmp .eql (.var 34) (.fn 0 (.var 33))) (.and (.cmp .eql (.fn 6 (.pr (.var 34) (.fn 6 (.pr (.var 24) (.int 1))))) (.var 26)) (.and (.not (.cmp .lss (.var 27) (.var 32))) (.and (.not (.cmp .lss (.var 32) (.var 31))) (.and (.cmp .eql (.var 31) (.fn 6 (.pr (.var 24) (.int 1)))) (.and (.cmp .lss (.fn 6 (.pr (.var 24) (.int 1))) (.var 26)) (.and (.not (.cmp .lss (.var 24) (.int (-1)))) (.and (.not (.cmp .lss (.int 200) (.var 34))) (.and (.not (.cmp .lss (.var 34) (.int 1))) (.and (.not (.cmp .lss (.var 26) (.var 31))) (.and (.not (.cmp .lss (.var 31) (.int 0))) (.and (.fn 108 (.var 28)) (.and (.fn 107 (.var 28)) (.and (.fn 106 (.pr (.var 25) (.var 28))) (.and (.not (.cmp .lss (.var 29) (.var 26))) (.and (.not (.cmp .lss (.var 27) (.var 26))) (.and (.cmp .eql (.var 26) (.fn 0 (.var 28))) (.and (.not (.cmp .lss (.var 26) (.int 1))) (.and (.not (.cmp .lss (.var 1) (.int 1))) (.and (.not (.cmp .lss (.var 0) (.int 0))) (.and (.not (.cmp .lss (.var 24) (.int 0))) (.and (.not (.cmp .lss (.int 4096) (.fn 1 (.pr (.var 28) (.var 24))))) (.and (.fn 33 (.pr (.var 30) (.fn 1 (.pr (.var 28) (.var 24))))) (.and (.cmp .eql (.var 36) (.fn 7 (.pr (.var 31) (.int 1)))) (.and (.cmp .eql (.var 32) (.ar .add .i64 (.var 36) (.int 1))) (.not (.cmp .lss (.int 200) (.var 26))))))))))))))))))))))))))))))) (.not (.cmp .lss (.int 2147483648) (.var 36))))
theorem fact145 (ρ : Env) : E.B ρ f145 = true := by
  unfold f145
  rw [sm_B_imp]
  simp only [sm_B_and]
  rintro ⟨p0, p1, p2, p3, p4, p5, p6, p7, p8, p9, p10, p11, p12, p13, p14, p15, p16, p17, p18, p19, p20, p21, p22, p23, p24, p25, p26, p27, p28⟩
  have g0 := t107_nth p15 (i := (.var 24))
  obtain ⟨v0, ev0, qv0⟩ := cs_i64 (E.I ρ (.var 36) + E.I ρ (.int 1))
  have ew0 : E.I ρ (.ar .add .i64 (.var 36) (.int 1)) = v0 := ev0
  try simp only [ew0] at g0
  clear p0 p1 p14 p15 p16 p25
  try simp only [smA, smW] at *
  try generalize E.I ρ (.var 35) = a0 at *
  try generalize E.I ρ (.var 34) = a1 at *
  have na2 := fn0_nn (ρ := ρ) (.var 33)
  try generalize E.I ρ (.fn 0 (.var 33)) = a2 at *
  try generalize E.I ρ (.var 24) = a3 at *
  try generalize E.I ρ (.var 26) = a4 at *
  try generalize E.I ρ (.var 27) = a5 at *
  try generalize E.I ρ (.var 32) = a6 at *
  try generalize E.I ρ (.var 31) = a7 at *
  try generalize E.I ρ (.var 29) = a8 at *
  have na9 := fn0_nn (ρ := ρ) (.var 28)
  try generalize E.I ρ (.fn 0 (.var 28)) = a9 at *
  try generalize E.I ρ (.var 1) = a10 at *
  try generalize E.I ρ (.var 0) = a11 at *
  try generalize E.I ρ (.fn 1 (.pr (.var 28) (.var 24))) = a12 at *
  try generalize E.I ρ (.var 36) = a13 at *
  obtain ⟨a14, ea14, qa14⟩ := cs_i64 (a13 + (1))
  try simp only [ea14] at *
  omega
noncomputable def f146 : E := (.imp (.and (.cmp .eql (.var 31) (.fn 7 (.pr (.var 26) (.int 1)))) (.and (.not (.cmp .eql (.var 27) (.ar .add .i64 (.var 31) (.int 1)))) (.and (.not (.cmp .lss (.var 32) (.int 0))) (.and (.not (.cmp .lss (.var 32) (.int 1))) (.and (.fn 108 (.var 28)) (.and (.fn 107 (.var 28)) (.and (.fn 106 (.pr (.var 25) (.var 28))) (.and (.not (.cmp .lss (.var 29) (.var 26))) (.and (.not (.cmp .lss (.var 27) (.var 26))) (.and (.cmp .eql (.var 26) (.fn 0 (.var 28))) (.and (.not (.cmp .lss (.int 200) (.var 26))) (.and (.not (.cmp .lss (.var 26) (.int 1))) (.and (.not (.cmp .lss (.int 9) (.var 1))) (.and (.not (.cmp .lss (.var 1) (.int 1))) (.and (.not (.cmp .lss (.int 200) (.var 0))) (.and (.not (.cmp .lss (.var 0) (.int 0))) (.and (.fn 104 (.pr (.var 30) (.pr (.var 28) (.var 26)))) (.cmp .eql (.var 24) (.fn 7 (.pr (.var 26) (.int 1))))))))))))))))))))) (.fn 105 (.pr (.fn 23 (.pr (.fn 1 (.pr (.var 28) (.var 24))) (.fn 10 (.int 0)))) (.pr (.var 28) (.fn 6 (.pr (.ar .sub .i64 (.var 24) (.int 1)) (.int 1)))))))
theorem fact146 (ρ : Env) : E.B ρ f146 = true := by
  unfold f146
  rw [sm_B_imp]
  simp only [sm_B_and]
  rintro ⟨p0, p1, p2, p3, p4, p5, p6, p7, p8, p9, p10, p11, p12, p13, p14, p15, p16, p17⟩
  obtain ⟨v0, ev0, qv0⟩ := cs_i64 (E.I ρ (.var 31) + E.I ρ (.int 1))
  have ew0 : E.I ρ (.ar .add .i64 (.var 31) (.int 1)) = v0 := ev0
  obtain ⟨v1, ev1, qv1⟩ := cs_i64 (E.I ρ (.var 24) - E.I ρ (.int 1))
  have ew1 : E.I ρ (.ar .sub .i64 (.var 24) (.int 1)) = v1 := ev1
  first
    | exact t105_first (i := (.var 24)) (by simp only [ints_app, ints_cons, ints_nil, ints_sub0, List.nil_append, List.append_nil, List.cons_append]) (by first | omega | (simp only [smA, ints_len, ew0, ew1] at *; first | done | omega)) (by first | omega | (simp only [smA, ints_len, ew0, ew1] at *; first | done | omega)) (by first | omega | (simp only [smA, ints_len, ew0, ew1] at *; first | done | omega))
noncomputable def f147 : E := (.imp (.and (.cmp .eql (.var 31) (.fn 7 (.pr (.var 26) (.int 1)))) (.and (.cmp .eql (.var 27) (.ar .add .i64 (.var 31) (.int 1))) (.and (.not (.cmp .lss (.var 32) (.int 0))) (.and (.not (.cmp .lss (.var 32) (.int 1))) (.and (.fn 108 (.var 28)) (.and (.fn 107 (.var 28)) (.and (.fn 106 (.pr (.var 25) (.var 28))) (.and (.not (.cmp .lss (.var 29) (.var 26))) (.and (.not (.cmp .lss (.var 27) (.var 26))) (.and (.cmp .eql (.var 26) (.fn 0 (.var 28))) (.and (.not (.cmp .lss (.int 200) (.var 26))) (.and (.not (.cmp .lss (.var 26) (.int 1))) (.and (.not (.cmp .lss (.int 9) (.var 1))) (.and (.not (.cmp .lss (.var 1) (.int 1))) (.and (.not (.cmp .lss (.int 200) (.var 0))) (.and (.not (.cmp .lss (.var 0) (.int 0))) (.and (.fn 104 (.pr (.var 30) (.pr (.var 28) (.var 26)))) (.cmp .eql (.var 24) (.fn 7 (.pr (.var 26) (.int 1))))))))))))))))))))) (.fn 105 (.pr (.fn 23 (.pr (.fn 1 (.pr (.var 28) (.var 24))) (.fn 10 (.int 0)))) (.pr (.var 28) (.fn 6 (.pr (.ar .sub .i64 (.var 24) (.int 1)) (.int 1)))))))
theorem fact147 (ρ : Env) : E.B ρ f147 = true := by
  unfold f147
  rw [sm_B_imp]
  simp only [sm_B_and]
  rintro ⟨p0, p1, p2, p3, p4, p5, p6, p7, p8, p9, p10, p11, p12, p13, p14, p15, p16, p17⟩
  obtain ⟨v0, ev0, qv0⟩ := cs_i64 (E.I ρ (.var 31) + E.I ρ (.int 1))
  have ew0 : E.I ρ (.ar .add .i64 (.var 31) (.int 1)) = v0 := ev0
  obtain ⟨v1, ev1, qv1⟩ := cs_i64 (E.I ρ (.var 24) - E.I ρ (.int 1))
  have ew1 : E.I ρ (.ar .sub .i64 (.var 24) (.int 1)) = v1 := ev1
  first
    | exact t105_first (i := (.var 24)) (by simp only [ints_app, ints_cons, ints_nil, ints_sub0, List.nil_append, List.append_nil, List.cons_append]) (by first | omega | (simp only [smA, ints_len, ew0, ew1] at *; first | done | omega)) (by first | omega | (simp only [smA, ints_len, ew0, ew1] at *; first | done | omega)) (by first | omega | (simp only [smA, ints_len, ew0, ew1] at *; first | done | omega))
noncomputable def f148 : E := (.imp (.and (.not (.cmp .lss (.var 24) (.int 0))) (.and (.not (.cmp .lss (.int 4096) (.fn 1 (.pr (.var 28) (.var 24))))) (.and (.fn 105 (.pr (.var 33) (.pr (.var 28) (.fn 6 (.pr (.var 24) (.int 1)))))) (.and (.fn 104 (.pr (.var 30) (.pr (.var 28) (.fn 6 (.pr (.var 24) (.int 1)))))) (.and (.not (.cmp .lss (.var 35) (.var 34))) (.and (.cmp .eql (.var 34) (.fn 0 (.var 33))) (.and (.cmp .eql (.fn 6 (.pr (.var 34) (.fn 6 (.pr (.var 24) (.int 1))))) (.var 26)) (.and (.not (.cmp .lss (.var 27) (.var 32))) (.and (.not (.cmp .lss (.var 32) (.var 31))) (.and (.cmp .eql (.var 31) (.fn 6 (.pr (.var 24) (.int 1)))) (.and (.cmp .lss (.fn 6 (.pr (.var 24) (.int 1))) (.var 26)) (.and (.not (.cmp .lss (.var 24) (.int (-1)))) (.and (.not (.cmp .lss (.int 200) (.var 34))) (.and (.not (.cmp .lss (.var 34) (.int 1))) (.and (.not (.cmp .lss (.var 26) (.var 31))) (.and (.not (.cmp .lss (.var 31) (.int 0))) (.and (.fn 108 (.var 28)) (.and (.fn 107 (.var 28)) (.and (.fn 106 (.pr (.var 25) (.var 28))) (.and (.not (.cmp .lss (.var 29) (.var 26))) (.and (.not (.cmp .lss (.var 27) (.var 26))) (.and (.cmp .eql (.var 26) (.fn 0 (.var 28))) (.and (.not (.cmp .lss (.int 200) (.var 26))) (.and (.not (.cmp .lss (.var 26) (.int 1))) (.and (.not (.cmp .lss (.int 9) (.var 1))) (.and (.not (.cmp .lss (.var 1) (.int 1))) (.and (.not (.cmp .lss (.int 200) (.var 0))) (.not (.cmp .lss (.var 0) (.int 0)))))))))))))))))))))))))))))) (.fn 33 (.pr (.var 30) (.fn 1 (.pr (.var 28) (.var 24))))))
theorem fact148 (ρ : Env) : E.B ρ f148 = true := by
  unfold f148
  rw [sm_B_imp]
  simp only [sm_B_and]
  rintro ⟨p0, p1, p2, p3, p4, p5, p6, p7, p8, p9, p10, p11, p12, p13, p14, p15, p16, p17, p18, p19, p20, p21, p22, p23, p24, p25, p26, p27⟩
  exact t33 p3 (by first | omega | (simp only [smA, ints_len] at *; first | done | omega)) (by first | omega | (simp only [smA, ints_len] at *; first | done | omega)) (by first | omega | (simp only [smA, ints_len] at *; first | done | omega))
noncomputable def f149 : E := (.imp (.and (.not (.cmp .lss (.var 24) (.int 0))) (.and (.not (.cmp .lss (.var 35) (.var 34))) (.and (.cmp .eql (.var 34) (.fn 0 (.var 33))) (.and (.cmp .eql (.fn 6 (.pr (.var 34) (.fn 6 (.pr (.var 24) (.int 1))))) (.var 26)) (.and (.not (.cmp .lss (.var 27) (.var 32))) (.and (.not (.cmp .lss (.var 32) (.var 31))) (.and (.cmp .eql (.var 31) (.fn 6 (.pr (.var 24) (.int 1)))) (.and (.cmp .lss (.fn 6 (.pr (.var 24) (.int 1))) (.var 26)) (.and (.not (.cmp .lss (.var 24) (.int (-1)))) (.and (.not (.cmp .lss (.int 200) (.var 34))) (.and (.not (.cmp .lss (.var 34) (.int 1))) (.and (.not (.cmp .lss (.var 26) (.var 31))) (.and (.not (.cmp .lss (.var 31) (.int 0))) (.and (.not (.cmp .lss (.var 29) (.var 26))) (.and (.not (.cmp .lss (.var 27) (.var 26))) (.and (.cmp .eql (.var 26) (.fn 0 (.var 28))) (.and (.not (.cmp .lss (.int 200) (.var 26))) (.not (.cmp .lss (.var 26) (.int 1)))))))))))))))))))) (.not (.cmp .lss (.ar .sub .i64 (.var 24) (.int 1)) (.int (-1)))))
theorem fact149 (ρ : Env) : E.B ρ f149 = true := by
  unfold f149
  rw [sm_B_imp]
  simp only [sm_B_and]
  rintro ⟨p0, p1, p2, p3, p4, p5, p6, p7, p8, p9, p10, p11, p12, p13, p14, p15, p16, p17⟩
  try simp only [smA, smW] at *
  try generalize E.I ρ (.var 24) = a0 at *
  try generalize E.I ρ (.var 35) = a1 at *
  try generalize E.I ρ (.var 34) = a2 at *
  have na3 := fn0_nn (ρ := ρ) (.var 33)
  try generalize E.I ρ (.fn 0 (.var 33)) = a3 at *
  try generalize E.I ρ (.var 26) = a4 at *
  try generalize E.I ρ (.var 27) = a5 at *
  try generalize E.I ρ (.var 32) = a6 at *
  try generalize E.I ρ (.var 31) = a7 at *
  try generalize E.I ρ (.var 29) = a8 at *
  have na9 := fn0_nn (ρ := ρ) (.var 28)
  try generalize E.I ρ (.fn 0 (.var 28)) = a9 at *
  obtain ⟨a10, ea10, qa10⟩ := cs_i64 (a0 - (1))
  try simp only [ea10] at *
  omega
noncomputable def f150 : E := (.imp (.and (.fn 105 (.pr (.var 33) (.pr (.var 28) (.fn 6 (.pr (.var 24) (.int 1)))))) (.and (.fn 104 (.pr (.var 30) (.pr (.var 28) (.fn 6 (.pr (.var 24) (.int 1)))))) (.and (.fn 108 (.var 28)) (.and (.fn 107 (.var 28)) (.and (.fn 106 (.pr (.var 25) (.var 28))) (.and (.not (.cmp .lss (.var 1) (.int 1))) (.and (.not (.cmp .lss (.var 0) (.int 0))) (.and (.not (.cmp .lss (.var 24) (.int 0))) (.and (.not (.cmp .lss (.var 35) (.var 34))) (.and (.cmp .eql (.var 34) (.fn 0 (.var 33))) (.and (.cmp .eql (.fn 6 (.pr (.var 34) (.fn 6 (.pr (.var 24) (.int 1))))) (.var 26)) (.and (.not (.cmp .lss (.var 27) (.var 32))) (.and (.not (.cmp .lss (.var 32) (.var 31))) (.and (.cmp .eql (.var 31) (.fn 6 (.pr (.var 24) (.int 1)))) (.and (.cmp .lss (.fn 6 (.pr (.var 24) (.int 1))) (.var 26)) (.and (.not (.cmp .lss (.var 24) (.int (-1)))) (.and (.not (.cmp .lss (.int 200) (.var 34))) (.and (.not (.cmp .lss (.var 34) (.int 1))) (.and (.not (.cmp .lss (.var 26) (.var 31))) (.and (.not (.cmp .lss (.var 31) (.int 0))) (.and (.not (.cmp .lss (.var 29) (.var 26))) (.and (.not (.cmp .lss (.var 27) (.var 26))) (.and (.cmp .eql (.var 26) (.fn 0 (.var 28))) (.and (.not (.cmp .lss (.int 200) (.var 26))) (.not (.cmp .lss (.var 26) (.int 1))))))))))))))))))))))))))) (.not (.cmp .lss (.int 4096) (.fn 1 (.pr (.var 28) (.var 24))))))
theorem fact150 (ρ : Env) : E.B ρ f150 = true := by
  unfold f150
  rw [sm_B_imp]
  simp only [sm_B_and]
  rintro ⟨p0, p1, p2, p3, p4, p5, p6, p7, p8, p9, p10, p11, p12, p13, p14, p15, p16, p17, p18, p19, p20, p21, p22, p23, p24⟩
  have g0 := t107_nth p3 (i := (.var 24))
  clear p0 p1 p2 p3 p4
  try simp only [smA, smW] at *
  try generalize E.I ρ (.var 1) = a0 at *
  try generalize E.I ρ (.var 0) = a1 at *
  try generalize E.I ρ (.var 24) = a2 at *
  try generalize E.I ρ (.var 35) = a3 at *
  try generalize E.I ρ (.var 34) = a4 at *
  have na5 := fn0_nn (ρ := ρ) (.var 33)
  try generalize E.I ρ (.fn 0 (.var 33)) = a5 at *
  try generalize E.I ρ (.var 26) = a6 at *
  try generalize E.I ρ (.var 27) = a7 at *
  try generalize E.I ρ (.var 32) = a8 at *
  try generalize E.I ρ (.var 31) = a9 at *
  try generalize E.I ρ (.var 29) = a10 at *
  have na11 := fn0_nn (ρ := ρ) (.var 28)
  try generalize E.I ρ (.fn 0 (.var 28)) = a11 at *
  try generalize E.I ρ (.fn 1 (.pr (.var 28) (.var 24))) = a12 at *
  omega
noncomputable def f151 : E := (.imp (.and (.not (.cmp .lss (.var 29) (.var 26))) (.and (.not (.cmp .lss (.var 27) (.var 26))) (.and (.cmp .eql (.var 26) (.fn 0 (.var 28))) (.and (.not (.cmp .lss (.int 200) (.var 26))) (.and (.not (.cmp .lss (.var 26) (.int 1))) (.cmp .eql (.var 24) (.fn 7 (.pr (.var 26) (.int 1))))))))) (.cmp .lss (.fn 6 (.pr (.ar .sub .i64 (.var 24) (.int 1)) (.int 1))) (.fn 6 (.pr (.var 24) (.int 1)))))
theorem fact151 (ρ : Env) : E.B ρ f151 = true := by
  unfold f151
  rw [sm_B_imp]
  simp only [sm_B_and]
  rintro ⟨p0, p1, p2, p3, p4, p5⟩
  try simp only [smA, smW] at *
  try generalize E.I ρ (.var 29) = a0 at *
  try generalize E.I ρ (.var 26) = a1 at *
  try generalize E.I ρ (.var 27) = a2 at *
  have na3 := fn0_nn (ρ := ρ) (.var 28)
  try generalize E.I ρ (.fn 0 (.var 28)) = a3 at *
  try generalize E.I ρ (.var 24) = a4 at *
  obtain ⟨a5, ea5, qa5⟩ := cs_i64 (a4 - (1))
  try simp only [ea5] at *
  omega
noncomputable def f152 : E := (.imp (.and (.not (.cmp .lss (.var 24) (.int 0))) (.and (.fn 33 (.pr (.var 30) (.fn 1 (.pr (.var 28) (.var 24))))) (.and (.fn 105 (.pr (.var 33) (.pr (.var 28) (.fn 6 (.pr (.var 24) (.int 1)))))) (.and (.fn 104 (.pr (.var 30) (.pr (.var 28) (.fn 6 (.pr (.var 24) (.int 1)))))) (.and (.not (.cmp .lss (.var 35) (.var 34))) (.and (.cmp .eql (.var 34) (.fn 0 (.var 33))) (.and (.cmp .eql (.fn 6 (.pr (.var 34) (.fn 6 (.pr (.var 24) (.int 1))))) (.var 26)) (.and (.not (.cmp .lss (.var 27) (.var 32))) (.and (.not (.cmp .lss (.var 32) (.var 31))) (.and (.cmp .eql (.var 31) (.fn 6 (.pr (.var 24) (.int 1)))) (.and (.cmp .lss (.fn 6 (.pr (.var 24) (.int 1))) (.var 26)) (.and (.not (.cmp .lss (.var 24) (.int (-1)))) (.and (.not (.cmp .lss (.int 200) (.var 34))) (.and (.not (.cmp .lss (.var 34) (.int 1))) (.and (.not (.cmp .lss (.var 26) (.var 31))) (.and (.not (.cmp .lss (.var 31) (.int 0))) (.and (.fn 108 (.var 28)) (.and (.fn 107 (.var 28)) (.and (.fn 106 (.pr (.var 25) (.var 28))) (.and (.not (.cmp .lss (.var 29) (.var 26))) (.and (.not (.cmp .lss (.var 27) (.var 26))) (.and (.cmp .eql (.var 26) (.fn 0 (.var 28))) (.and (.not (.cmp .lss (.int 200) (.var 26))) (.and (.not (.cmp .lss (.var 26) (.int 1))) (.and (.not (.cmp .lss (.int 9) (.var 1))) (.and (.not (.cmp .lss (.var 1) (.int 1))) (.and (.not (.cmp .lss (.int 200) (.var 0))) (.not (.cmp .lss (.var 0) (.int 0)))))))))))))))))))))))))))))) (.fn 103 (.pr (.var 25) (.pr (.var 31) (.fn 1 (.pr (.var 28) (.var 24)))))))
theorem fact152 (ρ : Env) : E.B ρ f152 = true := by
  unfold f152
  rw [sm_B_imp]
  simp only [sm_B_and]
  rintro ⟨p0, p1, p2, p3, p4, p5, p6, p7, p8, p9, p10, p11, p12, p13, p14, p15, p16, p17, p18, p19, p20, p21, p22, p23, p24, p25, p26, p27⟩
  first
    | exact t103_of p18 p16 (by first | omega | (simp only [smA, ints_len] at *; first | done | omega)) (by first | omega | (simp only [smA, ints_len] at *; first | done | omega)) (by first | omega | (simp only [smA, ints_len] at *; first | done | omega))
    | exact t103_one (by simp only [ints_app, ints_cons, ints_nil, ints_sub0, List.nil_append, List.append_nil, List.cons_append, sm_I_int]) (by first | omega | (simp only [smA, ints_len] at *; first | done | omega)) (by first | omega | (simp only [smA, ints_len] at *; first | done | omega))
noncomputable def f153 : E := (.imp (.and (.not (.cmp .lss (.var 29) (.var 26))) (.and (.not (.cmp .lss (.var 27) (.var 26))) (.and (.cmp .eql (.var 26) (.fn 0 (.var 28))) (.and (.not (.cmp .lss (.int 200) (.var 26))) (.and (.not (.cmp .lss (.var 26) (.int 1))) (.cmp .eql (.var 24) (.fn 7 (.pr (.var 26) (.int 1))))))))) (.not (.cmp .lss (.fn 6 (.pr (.ar .sub .i64 (.var 24) (.int 1)) (.int 1))) (.int 0))))
theorem fact153 (ρ : Env) : E.B ρ f153 = true := by
  unfold f153
  rw [sm_B_imp]
  simp only [sm_B_and]
  rintro ⟨p0, p1, p2, p3, p4, p5⟩
  try simp only [smA, smW] at *
  try generalize E.I ρ (.var 29) = a0 at *
  try generalize E.I ρ (.var 26) = a1 at *
  try generalize E.I ρ (.var 27) = a2 at *
  have na3 := fn0_nn (ρ := ρ) (.var 28)
  try generalize E.I ρ (.fn 0 (.var 28)) = a3 at *
  try generalize E.I ρ (.var 24) = a4 at *
  obtain ⟨a5, ea5, qa5⟩ := cs_i64 (a4 - (1))
  try simp only [ea5] at *
  omega
noncomputable def f154 : E := (.imp (.and (.fn 105 (.pr (.var 33) (.pr (.var 28) (.fn 6 (.pr (.var 24) (.int 1)))))) (.and (.fn 104 (.pr (.var 30) (.pr (.var 28) (.fn 6 (.pr (.var 24) (.int 1)))))) (.and (.not (.cmp .lss (.var 35) (.var 34))) (.and (.cmp .eql (.var 34) (.fn 0 (.var 33))) (.and (.cmp .eql (.fn 6 (.pr (.var 34) (.fn 6 (.pr (.var 24) (.int 1))))) (.var 26)) (.and (.not (.cmp .lss (.var 27) (.var 32))) (.and (.not (.cmp .lss (.var 32) (.var 31))) (.and (.cmp .eql (.var 31) (.fn 6 (.pr (.var 24) (.int 1)))) (.and (.cmp .lss (.fn 6 (.pr (.var 24) (.int 1))) (.var 26)) (.and (.not (.cmp .lss (.var 24) (.int (-1)))) (.and (.not (.cmp .lss (.int 200) (.var 34))) (.and (.not (.cmp .lss (.var 34) (.int 1))) (.and (.not (.cmp .lss (.var 26) (.var 31))) (.and (.not (.cmp .lss (.var 31) (.int 0))) (.and (.fn 108 (.var 28)) (.and (.fn 107 (.var 28)) (.and (.fn 106 (.pr (.var 25) (.var 28))) (.and (.not (.cmp .lss (.var 29) (.var 26))) (.and (.not (.cmp .lss (.var 27) (.var 26))) (.and (.cmp .eql (.var 26) (.fn 0 (.var 28))) (.and (.not (.cmp .lss (.var 26) (.int 1))) (.and (.not (.cmp .lss (.var 1) (.int 1))) (.and (.not (.cmp .lss (.var 0) (.int 0))) (.and (.not (.cmp .lss (.var 24) (.int 0))) (.and (.fn 33 (.pr (.var 30) (.fn 1 (.pr (.var 28) (.var 24))))) (.and (.cmp .eql (.var 36) (.fn 7 (.pr (.var 31) (.int 1)))) (.not (.cmp .lss (.int 200) (.var 26))))))))))))))))))))))))))))) (.not (.cmp .lss (.var 36) (.int 0))))
theorem fact154 (ρ : Env) : E.B ρ f154 = true := by
  unfold f154
  rw [sm_B_imp]
  simp only [sm_B_and]
  rintro ⟨p0, p1, p2, p3, p4, p5, p6, p7, p8, p9, p10, p11, p12, p13, p14, p15, p16, p17, p18, p19, p20, p21, p22, p23, p24, p25, p26⟩
  have g0 := t107_nth p15 (i := (.var 24))
  clear p0 p1 p14 p15 p16 p24
  try simp only [smA, smW] at *
  try generalize E.I ρ (.var 35) = a0 at *
  try generalize E.I ρ (.var 34) = a1 at *
  have na2 := fn0_nn (ρ := ρ) (.var 33)
  try generalize E.I ρ (.fn 0 (.var 33)) = a2 at *
  try generalize E.I ρ (.var 24) = a3 at *
  try generalize E.I ρ (.var 26) = a4 at *
  try generalize E.I ρ (.var 27) = a5 at *
  try generalize E.I ρ (.var 32) = a6 at *
  try generalize E.I ρ (.var 31) = a7 at *
  try generalize E.I ρ (.var 29) = a8 at *
  have na9 := fn0_nn (ρ := ρ) (.var 28)
  try generalize E.I ρ (.fn 0 (.var 28)) = a9 at *
  try generalize E.I ρ (.var 1) = a10 at *
  try generalize E.I ρ (.var 0) = a11 at *
  try generalize E.I ρ (.var 36) = a12 at *
  omega
noncomputable def f155 : E := (.imp (.and (.fn 105 (.pr (.var 33) (.pr (.var 28) (.fn 6 (.pr (.var 24) (.int 1)))))) (.and (.fn 104 (.pr (.var 30) (.pr (.var 28) (.fn 6 (.pr (.var 24) (.int 1)))))) (.and (.not (.cmp .lss (.var 35) (.var 34))) (.and (.cmp .eql (.var 34) (.fn 0 (.var 33))) (.and (.cmp .eql (.fn 6 (.pr (.var 34) (.fn 6 (.pr (.var 24) (.int 1))))) (.var 26)) (.and (.not (.cmp .lss (.var 27) (.var 32))) (.and (.not (.cmp .lss (.var 32) (.var 31))) (.and (.cmp .eql (.var 31) (.fn 6 (.pr (.var 24) (.int 1)))) (.and (.cmp .lss (.fn 6 (.pr (.var 24) (.int 1))) (.var 26)) (.and (.not (.cmp .lss (.var 24) (.int (-1)))) (.and (.not (.cmp .lss (.int 200) (.var 34))) (.and (.not (.cmp .lss (.var 34) (.int 1))) (.and (.not (.cmp .lss (.var 26) (.var 31))) (.and (.not (.cmp .lss (.var 31) (.int 0))) (.and (.fn 108 (.var 28)) (.and (.fn 107 (.var 28)) (.and (.fn 106 (.pr (.var 25) (.var 28))) (.and (.not (.cmp .lss (.var 29) (.var 26))) (.and (.not (.cmp .lss (.var 27) (.var 26))) (.and (.cmp .eql (.var 26) (.fn 0 (.var 28))) (.and (.not (.cmp .lss (.var 26) (.int 1))) (.and (.not (.cmp .lss (.var 1) (.int 1))) (.and (.not (.cmp .lss (.var 0) (.int 0))) (.and (.not (.cmp .lss (.var 24) (.int 0))) (.and (.fn 33 (.pr (.var 30) (.fn 1 (.pr (.var 28) (.var 24))))) (.and (.cmp .eql (.var 36) (.fn 7 (.pr (.var 31) (.int 1)))) (.not (.cmp .lss (.int 200) (.var 26))))))))))))))))))))))))))))) (.not (.cmp .lss (.ar .add .i64 (.var 36) (.int 1)) (.int 0))))
theorem fact155 (ρ : Env) : E.B ρ f155 = true := by
  unfold f155
  rw [sm_B_imp]
  simp only [sm_B_and]
  rintro ⟨p0, p1, p2, p3, p4, p5, p6, p7, p8, p9, p10, p11, p12, p13, p14, p15, p16, p17, p18, p19, p20, p21, p22, p23, p24, p25, p26⟩
  have g0 := t107_nth p15 (i := (.var 24))
  obtain ⟨v0, ev0, qv0⟩ := cs_i64 (E.I ρ (.var 36) + E.I ρ (.int 1))
  have ew0 : E.I ρ (.ar .add .i64 (.var 36) (.int 1)) = v0 := ev0
  try simp only [ew0] at g0
  clear p0 p1 p14 p15 p16 p24
  try simp only [smA, smW] at *
  try generalize E.I ρ (.var 35) = a0 at *
  try generalize E.I ρ (.var 34) = a1 at *
  have na2 := fn0_nn (ρ := ρ) (.var 33)
  try generalize E.I ρ (.fn 0 (.var 33)) = a2 at *
  try generalize E.I ρ (.var 24) = a3 at *
  try generalize E.I ρ (.var 26) = a4 at *
  try generalize E.I ρ (.var 27) = a5 at *
  try generalize E.I ρ (.var 32) = a6 at *
  try generalize E.I ρ (.var 31) = a7 at *
  try generalize E.I ρ (.var 29) = a8 at *
  have na9 := fn0_nn (ρ := ρ) (.var 28)
  try generalize E.I ρ (.fn 0 (.var 28)) = a9 at *
  try generalize E.I ρ (.var 1) = a10 at *
  try generalize E.I ρ (.var 0) = a11 at *
  try generalize E.I ρ (.var 36) = a12 at *
  obtain ⟨a13, ea13, qa13⟩ := cs_i64 (a12 + (1))
  try simp only [ea13] at *
  omega
noncomputable def f156 : E := (.imp (.and (.fn 105 (.pr (.var 33) (.pr (.var 28) (.fn 6 (.pr (.var 24) (.int 1)))))) (.and (.fn 104 (.pr (.var 30) (.pr (.var 28) (.fn 6 (.pr (.var 24) (.int 1)))))) (.and (.not (.cmp .lss (.var 35) (.var 34))) (.and (.cmp .eql (.var 34) (.fn 0 (.var 33))) (.and (.cmp .eql (.fn 6 (.pr (.var 34) (.fn 6 (.pr (.var 24) (.int 1))))) (.var 26)) (.and (.not (.cmp .lss (.var 27) (.var 32))) (.and (.not (.cmp .lss (.var 32) (.var 31))) (.and (.cmp .eql (.var 31) (.fn 6 (.pr (.var 24) (.int 1)))) (.and (.cmp .lss (.fn 6 (.pr (.var 24) (.int 1))) (.var 26)) (.and (.not (.cmp .lss (.var 24) (.int (-1)))) (.and (.not (.cmp .lss (.int 200) (.var 34))) (.and (.not (.cmp .lss (.var 34) (.int 1))) (.and (.not (.cmp .lss (.var 26) (.var 31))) (.and (.not (.cmp .lss (.var 31) (.int 0))) (.and (.fn 108 (.var 28)) (.and (.fn 107 (.var 28)) (.and (.fn 106 (.pr (.var 25) (.var 28))) (.and (.not (.cmp .lss (.var 29) (.var 26))) (.and (.not (.cmp .lss (.var 27) (.var 26))) (.and (.cmp .eql (.var 26) (.fn 0 (.var 28))) (.and (.not (.cmp .lss (.var 26) (.int 1))) (.and (.not (.cmp .lss (.var 1) (.int 1))) (.and (.not (.cmp .lss (.var 0) (.int 0))) (.and (.not (.cmp .lss (.var 24) (.int 0))) (.and (.fn 33 (.pr (.var 30) (.fn 1 (.pr (.var 28) (.var 24))))) (.and (.cmp .eql (.var 36) (.fn 7 (.pr (.var 31) (.int 1)))) (.and (.cmp .eql (.var 32) (.ar .add .i64 (.var 36) (.int 1))) (.not (.cmp .lss (.int 200) (.var 26)))))))))))))))))))))))))))))) (.not (.cmp .lss (.int 2147483648) (.var 36))))
theorem fact156 (ρ : Env) : E.B ρ f156 = true := by
  unfold f156
  rw [sm_B_imp]
  simp only [sm_B_and]
  rintro ⟨p0, p1, p2, p3, p4, p5, p6, p7, p8, p9, p10, p11, p12, p13, p14, p15, p16, p17, p18, p19, p20, p21, p22, p23, p24, p25, p26, p27⟩
  have g0 := t107_nth p15 (i := (.var 24))
  obtain ⟨v0, ev0, qv0⟩ := cs_i64 (E.I ρ (.var 36) + E.I ρ (.int 1))
  have ew0 : E.I ρ (.ar .add .i64 (.var 36) (.int 1)) = v0 := ev0
  try simp only [ew0] at g0
  clear p0 p1 p14 p15 p16 p24
  try simp only [smA, smW] at *
  try generalize E.I ρ (.var 35) = a0 at *
  try generalize E.I ρ (.var 34) = a1 at *
  have na2 := fn0_nn (ρ := ρ) (.var 33)
  try generalize E.I ρ (.fn 0 (.var 33)) = a2 at *
  try generalize E.I ρ (.var 24) = a3 at *
  try generalize E.I ρ (.var 26) = a4 at *
  try generalize E.I ρ (.var 27) = a5 at *
  try generalize E.I ρ (.var 32) = a6 at *
  try generalize E.I ρ (.var 31) = a7 at *
  try generalize E.I ρ (.var 29) = a8 at *
  have na9 := fn0_nn (ρ := ρ) (.var 28)
  try generalize E.I ρ (.fn 0 (.var 28)) = a9 at *
  try generalize E.I ρ (.var 1) = a10 at *
  try generalize E.I ρ (.var 0) = a11 at *
  try generalize E.I ρ (.var 36) = a12 at *
  obtain ⟨a13, ea13, qa13⟩ := cs_i64 (a12 + (1))
  try simp only [ea13] at *
  omega
noncomputable def f157 : E := (.imp (.and (.not (.cmp .lss (.var 24) (.int 0))) (.and (.fn 105 (.pr (.var 33) (.pr (.var 28) (.fn 6 (.pr (.var 24) (.int 1)))))) (.and (.fn 104 (.pr (.var 30) (.pr (.var 28) (.fn 6 (.pr (.var 24) (.int 1)))))) (.and (.not (.cmp .lss (.var 35) (.var 34))) (.and (.cmp .eql (.var 34) (.fn 0 (.var 33))) (.and (.cmp .eql (.fn 6 (.pr (.var 34) (.fn 6 (.pr (.var 24) (.int 1))))) (.var 26)) (.and (.not (.cmp .lss (.var 27) (.var 32))) (.and (.not (.cmp .lss (.var 32) (.var 31))) (.and (.cmp .eql (.var 31) (.fn 6 (.pr (.var 24) (.int 1)))) (.and (.cmp .lss (.fn 6 (.pr (.var 24) (.int 1))) (.var 26)) (.and (.not (.cmp .lss (.var 24) (.int (-1)))) (.and (.not (.cmp .lss (.int 200) (.var 34))) (.and (.not (.cmp .lss (.var 34) (.int 1))) (.and (.not (.cmp .lss (.var 26) (.var 31))) (.and (.not (.cmp .lss (.var 31) (.int 0))) (.and (.fn 108 (.var 28)) (.and (.fn 107 (.var 28)) (.and (.fn 106 (.pr (.var 25) (.var 28))) (.and (.not (.cmp .lss (.var 29) (.var 26))) (.and (.not (.cmp .lss (.var 27) (.var 26))) (.and (.cmp .eql (.var 26) (.fn 0 (.var 28))) (.and (.not (.cmp .lss (.int 200) (.var 26))) (.and (.not (.cmp .lss (.var 26) (.int 1))) (.and (.not (.cmp .lss (.int 9) (.var 1))) (.and (.not (.cmp .lss (.var 1) (.int 1))) (.and (.not (.cmp .lss (.int 200) (.var 0))) (.not (.cmp .lss (.var 0) (.int 0))))))))))))))))))))))))))))) (.fn 33 (.pr (.var 30) (.fn 1 (.pr (.var 28) (.var 24))))))
theorem fact157 (ρ : Env) : E.B ρ f157 = true := by
  unfold f157
  rw [sm_B_imp]
  simp only [sm_B_and]
  rintro ⟨p0, p1, p2, p3, p4, p5, p6, p7, p8, p9, p10, p11, p12, p13, p14, p15, p16, p17, p18, p19, p20, p21, p22, p23, p24, p25, p26⟩
  exact t33 p2 (by first | omega | (simp only [smA, ints_len] at *; first | done | omega)) (by first | omega | (simp only [smA, ints_len] at *; first | done | omega)) (by first | omega | (simp only [smA, ints_len] at *; first | done | omega))
noncomputable def f158 : E := (.imp (.and (.not (.cmp .lss (.var 35) (.var 34))) (.and (.cmp .eql (.var 34) (.fn 0 (.var 33))) (.and (.cmp .eql (.fn 6 (.pr (.var 34) (.fn 6 (.pr (.var 24) (.int 1))))) (.var 26)) (.and (.not (.cmp .lss (.var 27) (.var 32))) (.and (.not (.cmp .lss (.var 32) (.var 31))) (.and (.cmp .eql (.var 31) (.fn 6 (.pr (.var 24) (.int 1)))) (.and (.cmp .lss (.fn 6 (.pr (.var 24) (.int 1))) (.var 26)) (.and (.not (.cmp .lss (.var 24) (.int (-1)))) (.and (.not (.cmp .lss (.int 200) (.var 34))) (.and (.not (.cmp .lss (.var 34) (.int 1))) (.and (.not (.cmp .lss (.var 26) (.var 31))) (.and (.not (.cmp .lss (.var 31) (.int 0))) (.and (.not (.cmp .lss (.var 29) (.var 26))) (.and (.not (.cmp .lss (.var 27) (.var 26))) (.and (.cmp .eql (.var 26) (.fn 0 (.var 28))) (.and (.not (.cmp .lss (.int 200) (.var 26))) (.not (.cmp .lss (.var 26) (.int 1))))))))))))))))))) (.cmp .lss (.fn 6 (.pr (.ar .sub .i64 (.var 24) (.int 1)) (.int 1))) (.var 26)))
theorem fact158 (ρ : Env) : E.B ρ f158 = true := by
  unfold f158
  rw [sm_B_imp]
  simp only [sm_B_and]
  rintro ⟨p0, p1, p2, p3, p4, p5, p6, p7, p8, p9, p10, p11, p12, p13, p14, p15, p16⟩
  try simp only [smA, smW] at *
  try generalize E.I ρ (.var 35) = a0 at *
  try generalize E.I ρ (.var 34) = a1 at *
  have na2 := fn0_nn (ρ := ρ) (.var 33)
  try generalize E.I ρ (.fn 0 (.var 33)) = a2 at *
  try generalize E.I ρ (.var 24) = a3 at *
  try generalize E.I ρ (.var 26) = a4 at *
  try generalize E.I ρ (.var 27) = a5 at *
  try generalize E.I ρ (.var 32) = a6 at *
  try generalize E.I ρ (.var 31) = a7 at *
  try generalize E.I ρ (.var 29) = a8 at *
  have na9 := fn0_nn (ρ := ρ) (.var 28)
  try generalize E.I ρ (.fn 0 (.var 28)) = a9 at *
  obtain ⟨a10, ea10, qa10⟩ := cs_i64 (a3 - (1))
  try simp only [ea10] at *
  omega
noncomputable def f159 : E := (.imp (.and (.not (.cmp .lss (.var 24) (.int 0))) (.and (.fn 105 (.pr (.var 33) (.pr (.var 28) (.fn 6 (.pr (.var 24) (.int 1)))))) (.and (.fn 104 (.pr (.var 30) (.pr (.var 28) (.fn 6 (.pr (.var 24) (.int 1)))))) (.and (.not (.cmp .lss (.var 35) (.var 34))) (.and (.cmp .eql (.var 34) (.fn 0 (.var 33))) (.and (.cmp .eql (.fn 6 (.pr (.var 34) (.fn 6 (.pr (.var 24) (.int 1))))) (.var 26)) (.and (.not (.cmp .lss (.var 27) (.var 32))) (.and (.not (.cmp .lss (.var 32) (.var 31))) (.and (.cmp .eql (.var 31) (.fn 6 (.pr (.var 24) (.int 1)))) (.and (.cmp .lss (.fn 6 (.pr (.var 24) (.int 1))) (.var 26)) (.and (.not (.cmp .lss (.var 24) (.int (-1)))) (.and (.not (.cmp .lss (.int 200) (.var 34))) (.and (.not (.cmp .lss (.var 34) (.int 1))) (.and (.not (.cmp .lss (.var 26) (.var 31))) (.and (.not (.cmp .lss (.var 31) (.int 0))) (.and (.fn 108 (.var 28)) (.and (.fn 107 (.var 28)) (.and (.fn 106 (.pr (.var 25) (.var 28))) (.and (.not (.cmp .lss (.var 29) (.var 26))) (.and (.not (.cmp .lss (.var 27) (.var 26))) (.and (.cmp .eql (.var 26) (.fn 0 (.var 28))) (.and (.not (.cmp .lss (.int 200) (.var 26))) (.and (.not (.cmp .lss (.var 26) (.int 1))) (.and (.not (.cmp .lss (.int 9) (.var 1))) (.and (.not (.cmp .lss (.var 1) (.int 1))) (.and (.not (.cmp .lss (.int 200) (.var 0))) (.not (.cmp .lss (.var 0) (.int 0))))))))))))))))))))))))))))) (.fn 103 (.pr (.var 25) (.pr (.var 31) (.fn 1 (.pr (.var 28) (.var 24)))))))
theorem fact159 (ρ : Env) : E.B ρ f159 = true := by
  unfold f159
  rw [sm_B_imp]
  simp only [sm_B_and]
  rintro ⟨p0, p1, p2, p3, p4, p5, p6, p7, p8, p9, p10, p11, p12, p13, p14, p15, p16, p17, p18, p19, p20, p21, p22, p23, p24, p25, p26⟩
  first
    | exact t103_of p17 p15 (by first | omega | (simp only [smA, ints_len] at *; first | done | omega)) (by first | omega | (simp only [smA, ints_len] at *; first | done | omega)) (by first | omega | (simp only [smA, ints_len] at *; first | done | omega))
    | exact t103_one (by simp only [ints_app, ints_cons, ints_nil, ints_sub0, List.nil_append, List.append_nil, List.cons_append, sm_I_int]) (by first | omega | (simp only [smA, ints_len] at *; first | done | omega)) (by first | omega | (simp only [smA, ints_len] at *; first | done | omega))
noncomputable def f160 : E := (.imp (.and (.fn 105 (.pr (.var 33) (.pr (.var 28) (.fn 6 (.pr (.var 24) (.int 1)))))) (.and (.fn 104 (.pr (.var 30) (.pr (.var 28) (.fn 6 (.pr (.var 24) (.int 1)))))) (.and (.not (.cmp .lss (.var 35) (.var 34))) (.and (.cmp .eql (.var 34) (.fn 0 (.var 33))) (.and (.cmp .eql (.fn 6 (.pr (.var 34) (.fn 6 (.pr (.var 24) (.int 1))))) (.var 26)) (.and (.not (.cmp .lss (.var 27) (.var 32))) (.and (.not (.cmp .lss (.var 32) (.var 31))) (.and (.cmp .eql (.var 31) (.fn 6 (.pr (.var 24) (.int 1)))) (.and (.cmp .lss (.fn 6 (.pr (.var 24) (.int 1))) (.var 26)) (.and (.not (.cmp .lss (.var 24) (.int (-1)))) (.and (.not (.cmp .lss (.int 200) (.var 34))) (.and (.not (.cmp .lss (.var 34) (.int 1))) (.and (.not (.cmp .lss (.var 26) (.var 31))) (.and (.not (.cmp .lss (.var 31) (.int 0))) (.and (.fn 108 (.var 28)) (.and (.fn 107 (.var 28)) (.and (.fn 106 (.pr (.var 25) (.var 28))) (.and (.not (.cmp .lss (.var 29) (.var 26))) (.and (.not (.cmp .lss (.var 27) (.var 26))) (.and (.cmp .eql (.var 26) (.fn 0 (.var 28))) (.and (.not (.cmp .lss (.var 26) (.int 1))) (.and (.not (.cmp .lss (.var 1) (.int 1))) (.and (.not (.cmp .lss (.var 0) (.int 0))) (.and (.not (.cmp .lss (.var 24) (.int 0))) (.and (.cmp .eql (.var 36) (.fn 7 (.pr (.var 31) (.int 1)))) (.not (.cmp .lss (.int 200) (.var 26)))))))))))))))))))))))))))) (.not (.cmp .lss (.var 36) (.int 0))))
theorem fact160 (ρ : Env) : E.B ρ f160 = true := by
  unfold f160
  rw [sm_B_imp]
  simp only [sm_B_and]
  rintro ⟨p0, p1, p2, p3, p4, p5, p6, p7, p8, p9, p10, p11, p12, p13, p14, p15, p16, p17, p18, p19, p20, p21, p22, p23, p24, p25⟩
  clear p0 p1 p14 p15 p16
  try simp only [smA, smW] at *
  try generalize E.I ρ (.var 35) = a0 at *
  try generalize E.I ρ (.var 34) = a1 at *
  have na2 := fn0_nn (ρ := ρ) (.var 33)
  try generalize E.I ρ (.fn 0 (.var 33)) = a2 at *
  try generalize E.I ρ (.var 24) = a3 at *
  try generalize E.I ρ (.var 26) = a4 at *
  try generalize E.I ρ (.var 27) = a5 at *
  try generalize E.I ρ (.var 32) = a6 at *
  try generalize E.I ρ (.var 31) = a7 at *
  try generalize E.I ρ (.var 29) = a8 at *
  have na9 := fn0_nn (ρ := ρ) (.var 28)
  try generalize E.I ρ (.fn 0 (.var 28)) = a9 at *
  try generalize E.I ρ (.var 1) = a10 at *
  try generalize E.I ρ (.var 0) = a11 at *
  try generalize E.I ρ (.var 36) = a12 at *
  omega
noncomputable def f161 : E := (.imp (.and (.fn 105 (.pr (.var 33) (.pr (.var 28) (.fn 6 (.pr (.var 24) (.int 1)))))) (.and (.fn 104 (.pr (.var 30) (.pr (.var 28) (.fn 6 (.pr (.var 24) (.int 1)))))) (.and (.not (.cmp .lss (.var 35) (.var 34))) (.and (.cmp .eql (.var 34) (.fn 0 (.var 33))) (.and (.cmp .eql (.fn 6 (.pr (.var 34) (.fn 6 (.pr (.var 24) (.int 1))))) (.var 26)) (.and (.not (.cmp .lss (.var 27) (.var 32))) (.and (.not (.cmp .lss (.var 32) (.var 31))) (.and (.cmp .eql (.var 31) (.fn 6 (.pr (.var 24) (.int 1)))) (.and (.cmp .lss (.fn 6 (.pr (.var 24) (.int 1))) (.var 26)) (.and (.not (.cmp .lss (.var 24) (.int (-1)))) (.and (.not (.cmp .lss (.int 200) (.var 34))) (.and (.not (.cmp .lss (.var 34) (.int 1))) (.and (.not (.cmp .lss (.var 26) (.var 31))) (.and (.not (.cmp .lss (.var 31) (.int 0))) (.and (.fn 108 (.var 28)) (.and (.fn 107 (.var 28)) (.and (.fn 106 (.pr (.var 25) (.var 28))) (.and (.not (.cmp .lss (.var 29) (.var 26))) (.and (.not (.cmp .lss (.var 27) (.var 26))) (.and (.cmp .eql (.var 26) (.fn 0 (.var 28))) (.and (.not (.cmp .lss (.var 26) (.int 1))) (.and (.not (.cmp .lss (.var 1) (.int 1))) (.and (.not (.cmp .lss (.var 0) (.int 0))) (.and (.not (.cmp .lss (.var 24) (.int 0))) (.and (.cmp .eql (.var 36) (.fn 7 (.pr (.var 31) (.int 1)))) (.not (.cmp .lss (.int 200) (.var 26)))))))))))))))))))))))))))) (.not (.cmp .lss (.ar .add .i64 (.var 36) (.int 1)) (.int 0))))
theorem fact161 (ρ : Env) : E.B ρ f161 = true := by
  unfold f161
  rw [sm_B_imp]
  simp only [sm_B_and]
  rintro ⟨p0, p1, p2, p3, p4, p5, p6, p7, p8, p9, p10, p11, p12, p13, p14, p15, p16, p17, p18, p19, p20, p21, p22, p23, p24, p25⟩
  clear p0 p1 p14 p15 p16
  try simp only [smA, smW] at *
  try generalize E.I ρ (.var 35) = a0 at *
  try generalize E.I ρ (.var 34) = a1 at *
  have na2 := fn0_nn (ρ := ρ) (.var 33)
  try generalize E.I ρ (.fn 0 (.var 33)) = a2 at *
  try generalize E.I ρ (.var 24) = a3 at *
  try generalize E.I ρ (.var 26) = a4 at *
  try generalize E.I ρ (.var 27) = a5 at *
  try generalize E.I ρ (.var 32) = a6 at *
  try generalize E.I ρ (.var 31) = a7 at *
  try generalize E.I ρ (.var 29) = a8 at *
  have na9 := fn0_nn (ρ := ρ) (.var 28)
  try generalize E.I ρ (.fn 0 (.var 28)) = a9 at *
  try generalize E.I ρ (.var 1) = a10 at *
  try generalize E.I ρ (.var 0) = a11 at *
  try generalize E.I ρ (.var 36) = a12 at *
  obtain ⟨a13, ea13, qa13⟩ := cs_i64 (a12 + (1))
  try simp only [ea13] at *
  omega
noncomputable def f162 : E := (.imp (.and (.fn 105 (.pr (.var 33) (.pr (.var 28) (.fn 6 (.pr (.var 24) (.int 1)))))) (.and (.fn 104 (.pr (.var 30) (.pr (.var 28) (.fn 6 (.pr (.var 24) (.int 1)))))) (.and (.not (.cmp .lss (.var 35) (.var 34))) (.and (.cmp .eql (.var 34) (.fn 0 (.var 33))) (.and (.cmp .eql (.fn 6 (.pr (.var 34) (.fn 6 (.pr (.var 24) (.int 1))))) (.var 26)) (.and (.not (.cmp .lss (.var 27) (.var 32))) (.and (.not (.cmp .lss (.var 32) (.var 31))) (.and (.cmp .eql (.var 31) (.fn 6 (.pr (.var 24) (.int 1)))) (.and (.cmp .lss (.fn 6 (.pr (.var 24) (.int 1))) (.var 26)) (.and (.not (.cmp .lss (.var 24) (.int (-1)))) (.and (.not (.cmp .lss (.int 200) (.var 34))) (.and (.not (.cmp .lss (.var 34) (.int 1))) (.and (.not (.cmp .lss (.var 26) (.var 31))) (.and (.not (.cmp .lss (.var 31) (.int 0))) (.and (.fn 108 (.var 28)) (.and (.fn 107 (.var 28)) (.and (.fn 106 (.pr (.var 25) (.var 28))) (.and (.not (.cmp .lss (.var 29) (.var 26))) (.and (.not (.cmp .lss (.var 27) (.var 26))) (.and (.cmp .eql (.var 26) (.fn 0 (.var 28))) (.and (.not (.cmp .lss (.var 26) (.int 1))) (.and (.not (.cmp .lss (.var 1) (.int 1))) (.and (.not (.cmp .lss (.var 0) (.int 0))) (.and (.not (.cmp .lss (.var 24) (.int 0))) (.and (.cmp .eql (.var 36) (.fn 7 (.pr (.var 31) (.int 1)))) (.and (.cmp .eql (.var 32) (.ar .add .i64 (.var 36) (.int 1))) (.not (.cmp .lss (.int 200) (.var 26))))))))))))))))))))))))))))) (.not (.cmp .lss (.int 2147483648) (.var 36))))
theorem fact162 (ρ : Env) : E.B ρ f162 = true := by
  unfold f162
  rw [sm_B_imp]
  simp only [sm_B_and]
  rintro ⟨p0, p1, p2, p3, p4, p5, p6, p7, p8, p9, p10, p11, p12, p13, p14, p15, p16, p17, p18, p19, p20, p21, p22, p23, p24, p25, p26⟩
  clear p0 p1 p14 p15 p16
  try simp only [smA, smW] at *
  try generalize E.I ρ (.var 35) = a0 at *
  try generalize E.I ρ (.var 34) = a1 at *
  have na2 := fn0_nn (ρ := ρ) (.var 33)
  try generalize E.I ρ (.fn 0 (.var 33)) = a2 at *
  try generalize E.I ρ (.var 24) = a3 at *
  try generalize E.I ρ (.var 26) = a4 at *
  try generalize E.I ρ (.var 27) = a5 at *
  try generalize E.I ρ (.var 32) = a6 at *
  try generalize E.I ρ (.var 31) = a7 at *
  try generalize E.I ρ (.var 29) = a8 at *
  have na9 := fn0_nn (ρ := ρ) (.var 28)
  try generalize E.I ρ (.fn 0 (.var 28)) = a9 at *
  try generalize E.I ρ (.var 1) = a10 at *
  try generalize E.I ρ (.var 0) = a11 at *
  try generalize E.I ρ (.var 36) = a12 at *
  obtain ⟨a13, ea13, qa13⟩ := cs_i64 (a12 + (1))
  try simp only [ea13] at *
  omega
noncomputable def f163 : E := (.imp (.and (.cmp .eql (.var 36) (.fn 7 (.pr (.var 31) (.int 1)))) (.and (.not (.cmp .lss (.var 35) (.var 34))) (.and (.cmp .eql (.var 34) (.fn 0 (.var 33))) (.and (.cmp .eql (.fn 6 (.pr (.var 34) (.fn 6 (.pr (.var 24) (.int 1))))) (.var 26)) (.and (.not (.cmp .lss (.var 27) (.var 32))) (.and (.not (.cmp .lss (.var 32) (.var 31))) (.and (.cmp .eql (.var 31) (.fn 6 (.pr (.var 24) (.int 1)))) (.and (.cmp .lss (.fn 6 (.pr (.var 24) (.int 1))) (.var 26)) (.and (.not (.cmp .lss (.var 24) (.int (-1)))) (.and (.not (.cmp .lss (.int 200) (.var 34))) (.and (.not (.cmp .lss (.var 34) (.int 1))) (.and (.not (.cmp .lss (.var 26) (.var 31))) (.and (.not (.cmp .lss (.var 31) (.int 0))) (.and (.not (.cmp .lss (.var 29) (.var 26))) (.and (.not (.cmp .lss (.var 27) (.var 26))) (.and (.cmp .eql (.var 26) (.fn 0 (.var 28))) (.and (.not (.cmp .lss (.int 200) (.var 26))) (.not (.cmp .lss (.var 26) (.int 1)))))))))))))))))))) (.cmp .eql (.var 36) (.fn 6 (.pr (.ar .sub .i64 (.var 24) (.int 1)) (.int 1)))))
theorem fact163 (ρ : Env) : E.B ρ f163 = true := by
  unfold f163
  rw [sm_B_imp]
  simp only [sm_B_and]
  rintro ⟨p0, p1, p2, p3, p4, p5, p6, p7, p8, p9, p10, p11, p12, p13, p14, p15, p16, p17⟩
  try simp only [smA, smW] at *
  try generalize E.I ρ (.var 36) = a0 at *
  try generalize E.I ρ (.var 31) = a1 at *
  try generalize E.I ρ (.var 35) = a2 at *
  try generalize E.I ρ (.var 34) = a3 at *
  have na4 := fn0_nn (ρ := ρ) (.var 33)
  try generalize E.I ρ (.fn 0 (.var 33)) = a4 at *
  try generalize E.I ρ (.var 24) = a5 at *
  try generalize E.I ρ (.var 26) = a6 at *
  try generalize E.I ρ (.var 27) = a7 at *
  try generalize E.I ρ (.var 32) = a8 at *
  try generalize E.I ρ (.var 29) = a9 at *
  have na10 := fn0_nn (ρ := ρ) (.var 28)
  try generalize E.I ρ (.fn 0 (.var 28)) = a10 at *
  obtain ⟨a11, ea11, qa11⟩ := cs_i64 (a5 - (1))
  try simp only [ea11] at *
  omega
noncomputable def f164 : E := (.imp (.and (.cmp .eql (.var 36) (.fn 7 (.pr (.var 31) (.int 1)))) (.and (.not (.cmp .lss (.var 35) (.var 34))) (.and (.cmp .eql (.var 34) (.fn 0 (.var 33))) (.and (.cmp .eql (.fn 6 (.pr (.var 34) (.fn 6 (.pr (.var 24) (.int 1))))) (.var 26)) (.and (.not (.cmp .lss (.var 27) (.var 32))) (.and (.not (.cmp .lss (.var 32) (.var 31))) (.and (.cmp .eql (.var 31) (.fn 6 (.pr (.var 24) (.int 1)))) (.and (.cmp .lss (.fn 6 (.pr (.var 24) (.int 1))) (.var 26)) (.and (.not (.cmp .lss (.var 24) (.int (-1)))) (.and (.not (.cmp .lss (.int 200) (.var 34))) (.and (.not (.cmp .lss (.var 34) (.int 1))) (.and (.not (.cmp .lss (.var 26) (.var 31))) (.and (.not (.cmp .lss (.var 31) (.int 0))) (.and (.not (.cmp .lss (.var 29) (.var 26))) (.and (.not (.cmp .lss (.var 27) (.var 26))) (.and (.cmp .eql (.var 26) (.fn 0 (.var 28))) (.and (.not (.cmp .lss (.int 200) (.var 26))) (.not (.cmp .lss (.var 26) (.int 1)))))))))))))))))))) (.not (.cmp .lss (.var 27) (.var 36))))
theorem fact164 (ρ : Env) : E.B ρ f164 = true := by
  unfold f164
  rw [sm_B_imp]
  simp only [sm_B_and]
  rintro ⟨p0, p1, p2, p3, p4, p5, p6, p7, p8, p9, p10, p11, p12, p13, p14, p15, p16, p17⟩
  try simp only [smA, smW] at *
  try generalize E.I ρ (.var 36) = a0 at *
  try generalize E.I ρ (.var 31) = a1 at *
  try generalize E.I ρ (.var 35) = a2 at *
  try generalize E.I ρ (.var 34) = a3 at *
  have na4 := fn0_nn (ρ := ρ) (.var 33)
  try generalize E.I ρ (.fn 0 (.var 33)) = a4 at *
  try generalize E.I ρ (.var 24) = a5 at *
  try generalize E.I ρ (.var 26) = a6 at *
  try generalize E.I ρ (.var 27) = a7 at *
  try generalize E.I ρ (.var 32) = a8 at *
  try generalize E.I ρ (.var 29) = a9 at *
  have na10 := fn0_nn (ρ := ρ) (.var 28)
  try generalize E.I ρ (.fn 0 (.var 28)) = a10 at *
  omega
noncomputable def f165 : E := (.imp (.and (.not (.cmp .lss (.var 35) (.var 34))) (.and (.cmp .eql (.var 34) (.fn 0 (.var 33))) (.and (.cmp .eql (.fn 6 (.pr (.var 34) (.fn 6 (.pr (.var 24) (.int 1))))) (.var 26)) (.and (.not (.cmp .lss (.var 27) (.var 32))) (.and (.not (.cmp .lss (.var 32) (.var 31))) (.and (.cmp .eql (.var 31) (.fn 6 (.pr (.var 24) (.int 1)))) (.and (.cmp .lss (.fn 6 (.pr (.var 24) (.int 1))) (.var 26)) (.and (.not (.cmp .lss (.var 24) (.int (-1)))) (.and (.not (.cmp .lss (.int 200) (.var 34))) (.and (.not (.cmp .lss (.var 34) (.int 1))) (.and (.not (.cmp .lss (.var 26) (.var 31))) (.and (.not (.cmp .lss (.var 31) (.int 0))) (.and (.not (.cmp .lss (.var 29) (.var 26))) (.and (.not (.cmp .lss (.var 27) (.var 26))) (.and (.cmp .eql (.var 26) (.fn 0 (.var 28))) (.and (.not (.cmp .lss (.int 200) (.var 26))) (.not (.cmp .lss (.var 26) (.int 1))))))))))))))))))) (.cmp .eql (.fn 6 (.pr (.fn 6 (.pr (.var 34) (.int 1))) (.fn 6 (.pr (.ar .sub .i64 (.var 24) (.int 1)) (.int 1))))) (.var 26)))
theorem fact165 (ρ : Env) : E.B ρ f165 = true := by
  unfold f165
  rw [sm_B_imp]
  simp only [sm_B_and]
  rintro ⟨p0, p1, p2, p3, p4, p5, p6, p7, p8, p9, p10, p11, p12, p13, p14, p15, p16⟩
  try simp only [smA, smW] at *
  try generalize E.I ρ (.var 35) = a0 at *
  try generalize E.I ρ (.var 34) = a1 at *
  have na2 := fn0_nn (ρ := ρ) (.var 33)
  try generalize E.I ρ (.fn 0 (.var 33)) = a2 at *
  try generalize E.I ρ (.var 24) = a3 at *
  try generalize E.I ρ (.var 26) = a4 at *
  try generalize E.I ρ (.var 27) = a5 at *
  try generalize E.I ρ (.var 32) = a6 at *
  try generalize E.I ρ (.var 31) = a7 at *
  try generalize E.I ρ (.var 29) = a8 at *
  have na9 := fn0_nn (ρ := ρ) (.var 28)
  try generalize E.I ρ (.fn 0 (.var 28)) = a9 at *
  obtain ⟨a10, ea10, qa10⟩ := cs_i64 (a3 - (1))
  try simp only [ea10] at *
  omega
noncomputable def f166 : E := (.imp (.and (.not (.cmp .lss (.var 35) (.var 34))) (.and (.cmp .eql (.var 34) (.fn 0 (.var 33))) (.and (.cmp .eql (.fn 6 (.pr (.var 34) (.fn 6 (.pr (.var 24) (.int 1))))) (.var 26)) (.and (.not (.cmp .lss (.var 27) (.var 32))) (.and (.not (.cmp .lss (.var 32) (.var 31))) (.and (.cmp .eql (.var 31) (.fn 6 (.pr (.var 24) (.int 1)))) (.and (.cmp .lss (.fn 6 (.pr (.var 24) (.int 1))) (.var 26)) (.and (.not (.cmp .lss (.var 24) (.int (-1)))) (.and (.not (.cmp .lss (.int 200) (.var 34))) (.and (.not (.cmp .lss (.var 34) (.int 1))) (.and (.not (.cmp .lss (.var 26) (.var 31))) (.and (.not (.cmp .lss (.var 31) (.int 0))) (.and (.not (.cmp .lss (.var 29) (.var 26))) (.and (.not (.cmp .lss (.var 27) (.var 26))) (.and (.cmp .eql (.var 26) (.fn 0 (.var 28))) (.and (.not (.cmp .lss (.int 200) (.var 26))) (.not (.cmp .lss (.var 26) (.int 1))))))))))))))))))) (.cmp .eql (.fn 6 (.pr (.var 34) (.int 1))) (.fn 6 (.pr (.fn 0 (.var 33)) (.int 1)))))
theorem fact166 (ρ : Env) : E.B ρ f166 = true := by
  unfold f166
  rw [sm_B_imp]
  simp only [sm_B_and]
  rintro ⟨p0, p1, p2, p3, p4, p5, p6, p7, p8, p9, p10, p11, p12, p13, p14, p15, p16⟩
  try simp only [smA, smW] at *
  try generalize E.I ρ (.var 35) = a0 at *
  try generalize E.I ρ (.var 34) = a1 at *
  have na2 := fn0_nn (ρ := ρ) (.var 33)
  try generalize E.I ρ (.fn 0 (.var 33)) = a2 at *
  try generalize E.I ρ (.var 24) = a3 at *
  try generalize E.I ρ (.var 26) = a4 at *
  try generalize E.I ρ (.var 27) = a5 at *
  try generalize E.I ρ (.var 32) = a6 at *
  try generalize E.I ρ (.var 31) = a7 at *
  try generalize E.I ρ (.var 29) = a8 at *
  have na9 := fn0_nn (ρ := ρ) (.var 28)
  try generalize E.I ρ (.fn 0 (.var 28)) = a9 at *
  omega
noncomputable def f167 : E := (.imp (.and (.not (.cmp .lss (.var 24) (.int 0))) (.and (.cmp .eql (.var 36) (.fn 7 (.pr (.var 31) (.int 1)))) (.and (.not (.cmp .eql (.var 32) (.ar .add .i64 (.var 36) (.int 1)))) (.and (.not (.cmp .eql (.var 35) (.var 34))) (.and (.not (.cmp .lss (.var 37) (.int 0))) (.and (.not (.cmp .lss (.var 37) (.fn 6 (.pr (.var 34) (.int 1))))) (.and (.fn 105 (.pr (.var 33) (.pr (.var 28) (.fn 6 (.pr (.var 24) (.int 1)))))) (.and (.fn 104 (.pr (.var 30) (.pr (.var 28) (.fn 6 (.pr (.var 24) (.int 1)))))) (.and (.not (.cmp .lss (.var 35) (.var 34))) (.and (.cmp .eql (.var 34) (.fn 0 (.var 33))) (.and (.cmp .eql (.fn 6 (.pr (.var 34) (.fn 6 (.pr (.var 24) (.int 1))))) (.var 26)) (.and (.not (.cmp .lss (.var 27) (.var 32))) (.and (.not (.cmp .lss (.var 32) (.var 31))) (.and (.cmp .eql (.var 31) (.fn 6 (.pr (.var 24) (.int 1)))) (.and (.cmp .lss (.fn 6 (.pr (.var 24) (.int 1))) (.var 26)) (.and (.not (.cmp .lss (.var 24) (.int (-1)))) (.and (.not (.cmp .lss (.int 200) (.var 34))) (.and (.not (.cmp .lss (.var 34) (.int 1))) (.and (.not (.cmp .lss (.var 26) (.var 31))) (.and (.not (.cmp .lss (.var 31) (.int 0))) (.and (.fn 108 (.var 28)) (.and (.fn 107 (.var 28)) (.and (.fn 106 (.pr (.var 25) (.var 28))) (.and (.not (.cmp .lss (.var 29) (.var 26))) (.and (.not (.cmp .lss (.var 27) (.var 26))) (.and (.cmp .eql (.var 26) (.fn 0 (.var 28))) (.and (.not (.cmp .lss (.int 200) (.var 26))) (.and (.not (.cmp .lss (.var 26) (.int 1))) (.and (.not (.cmp .lss (.int 9) (.var 1))) (.and (.not (.cmp .lss (.var 1) (.int 1))) (.and (.not (.cmp .lss (.int 200) (.var 0))) (.not (.cmp .lss (.var 0) (.int 0)))))))))))))))))))))))))))))))))) (.fn 104 (.pr (.fn 34 (.pr (.fn 35 (.pr (.var 30) (.fn 1 (.pr (.var 28) (.var 24))))) (.pr (.fn 1 (.pr (.var 28) (.var 24))) (.int 1)))) (.pr (.var 28) (.fn 6 (.pr (.ar .sub .i64 (.var 24) (.int 1)) (.int 1)))))))
theorem fact167 (ρ : Env) : E.B ρ f167 = true := by
  unfold f167
  rw [sm_B_imp]
  simp only [sm_B_and]
  rintro ⟨p0, p1, p2, p3, p4, p5, p6, p7, p8, p9, p10, p11, p12, p13, p14, p15, p16, p17, p18, p19, p20, p21, p22, p23, p24, p25, p26, p27, p28, p29, p30, p31⟩
  obtain ⟨v0, ev0, qv0⟩ := cs_i64 (E.I ρ (.var 36) + E.I ρ (.int 1))
  have ew0 : E.I ρ (.ar .add .i64 (.var 36) (.int 1)) = v0 := ev0
  obtain ⟨v1, ev1, qv1⟩ := cs_i64 (E.I ρ (.var 24) - E.I ρ (.int 1))
  have ew1 : E.I ρ (.ar .sub .i64 (.var 24) (.int 1)) = v1 := ev1
  first
    | exact t104_step (i := (.var 24)) p7 p20 (by first | omega | (simp only [smA, ints_len, ew0, ew1] at *; first | done | omega)) (by first | omega | (simp only [smA, ints_len, ew0, ew1] at *; first | done | omega)) (by first | omega | (simp only [smA, ints_len, ew0, ew1] at *; first | done | omega)) (by first | omega | (simp only [smA, ints_len, ew0, ew1] at *; first | done | omega))
    | exact t104_none (by first | omega | (simp only [smA, ints_len, ew0, ew1] at *; first | done | omega))
noncomputable def f168 : E := (.imp (.and (.not (.cmp .lss (.var 24) (.int 0))) (.and (.cmp .eql (.var 36) (.fn 7 (.pr (.var 31) (.int 1)))) (.and (.not (.cmp .eql (.var 32) (.ar .add .i64 (.var 36) (.int 1)))) (.and (.cmp .eql (.var 35) (.var 34)) (.and (.not (.cmp .lss (.var 37) (.int 0))) (.and (.not (.cmp .lss (.var 37) (.fn 6 (.pr (.var 34) (.int 1))))) (.and (.fn 105 (.pr (.var 33) (.pr (.var 28) (.fn 6 (.pr (.var 24) (.int 1)))))) (.and (.fn 104 (.pr (.var 30) (.pr (.var 28) (.fn 6 (.pr (.var 24) (.int 1)))))) (.and (.not (.cmp .lss (.var 35) (.var 34))) (.and (.cmp .eql (.var 34) (.fn 0 (.var 33))) (.and (.cmp .eql (.fn 6 (.pr (.var 34) (.fn 6 (.pr (.var 24) (.int 1))))) (.var 26)) (.and (.not (.cmp .lss (.var 27) (.var 32))) (.and (.not (.cmp .lss (.var 32) (.var 31))) (.and (.cmp .eql (.var 31) (.fn 6 (.pr (.var 24) (.int 1)))) (.and (.cmp .lss (.fn 6 (.pr (.var 24) (.int 1))) (.var 26)) (.and (.not (.cmp .lss (.var 24) (.int (-1)))) (.and (.not (.cmp .lss (.int 200) (.var 34))) (.and (.not (.cmp .lss (.var 34) (.int 1))) (.and (.not (.cmp .lss (.var 26) (.var 31))) (.and (.not (.cmp .lss (.var 31) (.int 0))) (.and (.fn 108 (.var 28)) (.and (.fn 107 (.var 28)) (.and (.fn 106 (.pr (.var 25) (.var 28))) (.and (.not (.cmp .lss (.var 29) (.var 26))) (.and (.not (.cmp .lss (.var 27) (.var 26))) (.and (.cmp .eql (.var 26) (.fn 0 (.var 28))) (.and (.not (.cmp .lss (.int 200) (.var 26))) (.and (.not (.cmp .lss (.var 26) (.int 1))) (.and (.not (.cmp .lss (.int 9) (.var 1))) (.and (.not (.cmp .lss (.var 1) (.int 1))) (.and (.not (.cmp .lss (.int 200) (.var 0))) (.not (.cmp .lss (.var 0) (.int 0)))))))))))))))))))))))))))))))))) (.fn 104 (.pr (.fn 34 (.pr (.fn 35 (.pr (.var 30) (.fn 1 (.pr (.var 28) (.var 24))))) (.pr (.fn 1 (.pr (.var 28) (.var 24))) (.int 1)))) (.pr (.var 28) (.fn 6 (.pr (.ar .sub .i64 (.var 24) (.int 1)) (.int 1)))))))
theorem fact168 (ρ : Env) : E.B ρ f168 = true := by
  unfold f168
  rw [sm_B_imp]
  simp only [sm_B_and]
  rintro ⟨p0, p1, p2, p3, p4, p5, p6, p7, p8, p9, p10, p11, p12, p13, p14, p15, p16, p17, p18, p19, p20, p21, p22, p23, p24, p25, p26, p27, p28, p29, p30, p31⟩
  obtain ⟨v0, ev0, qv0⟩ := cs_i64 (E.I ρ (.var 36) + E.I ρ (.int 1))
  have ew0 : E.I ρ (.ar .add .i64 (.var 36) (.int 1)) = v0 := ev0
  obtain ⟨v1, ev1, qv1⟩ := cs_i64 (E.I ρ (.var 24) - E.I ρ (.int 1))
  have ew1 : E.I ρ (.ar .sub .i64 (.var 24) (.int 1)) = v1 := ev1
  first
    | exact t104_step (i := (.var 24)) p7 p20 (by first | omega | (simp only [smA, ints_len, ew0, ew1] at *; first | done | omega)) (by first | omega | (simp only [smA, ints_len, ew0, ew1] at *; first | done | omega)) (by first | omega | (simp only [smA, ints_len, ew0, ew1] at *; first | done | omega)) (by first | omega | (simp only [smA, ints_len, ew0, ew1] at *; first | done | omega))
    | exact t104_none (by first | omega | (simp only [smA, ints_len, ew0, ew1] at *; first | done | omega))
noncomputable def f169 : E := (.imp (.and (.not (.cmp .lss (.var 24) (.int 0))) (.and (.cmp .eql (.var 36) (.fn 7 (.pr (.var 31) (.int 1)))) (.and (.cmp .eql (.var 32) (.ar .add .i64 (.var 36) (.int 1))) (.and (.not (.cmp .eql (.var 35) (.var 34))) (.and (.not (.cmp .lss (.var 37) (.int 0))) (.and (.not (.cmp .lss (.var 37) (.fn 6 (.pr (.var 34) (.int 1))))) (.and (.fn 105 (.pr (.var 33) (.pr (.var 28) (.fn 6 (.pr (.var 24) (.int 1)))))) (.and (.fn 104 (.pr (.var 30) (.pr (.var 28) (.fn 6 (.pr (.var 24) (.int 1)))))) (.and (.not (.cmp .lss (.var 35) (.var 34))) (.and (.cmp .eql (.var 34) (.fn 0 (.var 33))) (.and (.cmp .eql (.fn 6 (.pr (.var 34) (.fn 6 (.pr (.var 24) (.int 1))))) (.var 26)) (.and (.not (.cmp .lss (.var 27) (.var 32))) (.and (.not (.cmp .lss (.var 32) (.var 31))) (.and (.cmp .eql (.var 31) (.fn 6 (.pr (.var 24) (.int 1)))) (.and (.cmp .lss (.fn 6 (.pr (.var 24) (.int 1))) (.var 26)) (.and (.not (.cmp .lss (.var 24) (.int (-1)))) (.and (.not (.cmp .lss (.int 200) (.var 34))) (.and (.not (.cmp .lss (.var 34) (.int 1))) (.and (.not (.cmp .lss (.var 26) (.var 31))) (.and (.not (.cmp .lss (.var 31) (.int 0))) (.and (.fn 108 (.var 28)) (.and (.fn 107 (.var 28)) (.and (.fn 106 (.pr (.var 25) (.var 28))) (.and (.not (.cmp .lss (.var 29) (.var 26))) (.and (.not (.cmp .lss (.var 27) (.var 26))) (.and (.cmp .eql (.var 26) (.fn 0 (.var 28))) (.and (.not (.cmp .lss (.int 200) (.var 26))) (.and (.not (.cmp .lss (.var 26) (.int 1))) (.and (.not (.cmp .lss (.int 9) (.var 1))) (.and (.not (.cmp .lss (.var 1) (.int 1))) (.and (.not (.cmp .lss (.int 200) (.var 0))) (.not (.cmp .lss (.var 0) (.int 0)))))))))))))))))))))))))))))))))) (.fn 104 (.pr (.fn 34 (.pr (.fn 35 (.pr (.var 30) (.fn 1 (.pr (.var 28) (.var 24))))) (.pr (.fn 1 (.pr (.var 28) (.var 24))) (.int 1)))) (.pr (.var 28) (.fn 6 (.pr (.ar .sub .i64 (.var 24) (.int 1)) (.int 1)))))))
theorem fact169 (ρ : Env) : E.B ρ f169 = true := by
  unfold f169
  rw [sm_B_imp]
  simp only [sm_B_and]
  rintro ⟨p0, p1, p2, p3, p4, p5, p6, p7, p8, p9, p10, p11, p12, p13, p14, p15, p16, p17, p18, p19, p20, p21, p22, p23, p24, p25, p26, p27, p28, p29, p30, p31⟩
  obtain ⟨v0, ev0, qv0⟩ := cs_i64 (E.I ρ (.var 36) + E.I ρ (.int 1))
  have ew0 : E.I ρ (.ar .add .i64 (.var 36) (.int 1)) = v0 := ev0
  obtain ⟨v1, ev1, qv1⟩ := cs_i64 (E.I ρ (.var 24) - E.I ρ (.int 1))
  have ew1 : E.I ρ (.ar .sub .i64 (.var 24) (.int 1)) = v1 := ev1
  first
    | exact t104_step (i := (.var 24)) p7 p20 (by first | omega | (simp only [smA, ints_len, ew0, ew1] at *; first | done | omega)) (by first | omega | (simp only [smA, ints_len, ew0, ew1] at *; first | done | omega)) (by first | omega | (simp only [smA, ints_len, ew0, ew1] at *; first | done | omega)) (by first | omega | (simp only [smA, ints_len, ew0, ew1] at *; first | done | omega))
    | exact t104_none (by first | omega | (simp only [smA, ints_len, ew0, ew1] at *; first | done | omega))
noncomputable def f170 : E := (.imp (.and (.not (.cmp .lss (.var 24) (.int 0))) (.and (.cmp .eql (.var 36) (.fn 7 (.pr (.var 31) (.int 1)))) (.and (.cmp .eql (.var 32) (.ar .add .i64 (.var 36) (.int 1))) (.and (.cmp .eql (.var 35) (.var 34)) (.and (.not (.cmp .lss (.var 37) (.int 0))) (.and (.not (.cmp .lss (.var 37) (.fn 6 (.pr (.var 34) (.int 1))))) (.and (.fn 105 (.pr (.var 33) (.pr (.var 28) (.fn 6 (.pr (.var 24) (.int 1)))))) (.and (.fn 104 (.pr (.var 30) (.pr (.var 28) (.fn 6 (.pr (.var 24) (.int 1)))))) (.and (.not (.cmp .lss (.var 35) (.var 34))) (.and (.cmp .eql (.var 34) (.fn 0 (.var 33))) (.and (.cmp .eql (.fn 6 (.pr (.var 34) (.fn 6 (.pr (.var 24) (.int 1))))) (.var 26)) (.and (.not (.cmp .lss (.var 27) (.var 32))) (.and (.not (.cmp .lss (.var 32) (.var 31))) (.and (.cmp .eql (.var 31) (.fn 6 (.pr (.var 24) (.int 1)))) (.and (.cmp .lss (.fn 6 (.pr (.var 24) (.int 1))) (.var 26)) (.and (.not (.cmp .lss (.var 24) (.int (-1)))) (.and (.not (.cmp .lss (.int 200) (.var 34))) (.and (.not (.cmp .lss (.var 34) (.int 1))) (.and (.not (.cmp .lss (.var 26) (.var 31))) (.and (.not (.cmp .lss (.var 31) (.int 0))) (.and (.fn 108 (.var 28)) (.and (.fn 107 (.var 28)) (.and (.fn 106 (.pr (.var 25) (.var 28))) (.and (.not (.cmp .lss (.var 29) (.var 26))) (.and (.not (.cmp .lss (.var 27) (.var 26))) (.and (.cmp .eql (.var 26) (.fn 0 (.var 28))) (.and (.not (.cmp .lss (.int 200) (.var 26))) (.and (.not (.cmp .lss (.var 26) (.int 1))) (.and (.not (.cmp .lss (.int 9) (.var 1))) (.and (.not (.cmp .lss (.var 1) (.int 1))) (.and (.not (.cmp .lss (.int 200) (.var 0))) (.not (.cmp .lss (.var 0) (.int 0)))))))))))))))))))))))))))))))))) (.fn 104 (.pr (.fn 34 (.pr (.fn 35 (.pr (.var 30) (.fn 1 (.pr (.var 28) (.var 24))))) (.pr (.fn 1 (.pr (.var 28) (.var 24))) (.int 1)))) (.pr (.var 28) (.fn 6 (.pr (.ar .sub .i64 (.var 24) (.int 1)) (.int 1)))))))
theorem fact170 (ρ : Env) : E.B ρ f170 = true := by
  unfold f170
  rw [sm_B_imp]
  simp only [sm_B_and]
  rintro ⟨p0, p1, p2, p3, p4, p5, p6, p7, p8, p9, p10, p11, p12, p13, p14, p15, p16, p17, p18, p19, p20, p21, p22, p23, p24, p25, p26, p27, p28, p29, p30, p31⟩
  obtain ⟨v0, ev0, qv0⟩ := cs_i64 (E.I ρ (.var 36) + E.I ρ (.int 1))
  have ew0 : E.I ρ (.ar .add .i64 (.var 36) (.int 1)) = v0 := ev0
  obtain ⟨v1, ev1, qv1⟩ := cs_i64 (E.I ρ (.var 24) - E.I ρ (.int 1))
  have ew1 : E.I ρ (.ar .sub .i64 (.var 24) (.int 1)) = v1 := ev1
  first
    | exact t104_step (i := (.var 24)) p7 p20 (by first | omega | (simp only [smA, ints_len, ew0, ew1] at *; first | done | omega)) (by first | omega | (simp only [smA, ints_len, ew0, ew1] at *; first | done | omega)) (by first | omega | (simp only [smA, ints_len, ew0, ew1] at *; first | done | omega)) (by first | omega | (simp only [smA, ints_len, ew0, ew1] at *; first | done | omega))
    | exact t104_none (by first | omega | (simp only [smA, ints_len, ew0, ew1] at *; first | done | omega))
noncomputable def f171 : E := (.imp (.and (.not (.cmp .lss (.var 24) (.int 0))) (.and (.cmp .eql (.var 36) (.fn 7 (.pr (.var 31) (.int 1)))) (.and (.not (.cmp .eql (.var 32) (.ar .add .i64 (.var 36) (.int 1)))) (.and (.not (.cmp .eql (.var 35) (.var 34))) (.and (.not (.cmp .lss (.var 37) (.int 0))) (.and (.not (.cmp .lss (.var 37) (.fn 6 (.pr (.var 34) (.int 1))))) (.and (.fn 105 (.pr (.var 33) (.pr (.var 28) (.fn 6 (.pr (.var 24) (.int 1)))))) (.and (.fn 104 (.pr (.var 30) (.pr (.var 28) (.fn 6 (.pr (.var 24) (.int 1)))))) (.and (.not (.cmp .lss (.var 35) (.var 34))) (.and (.cmp .eql (.var 34) (.fn 0 (.var 33))) (.and (.cmp .eql (.fn 6 (.pr (.var 34) (.fn 6 (.pr (.var 24) (.int 1))))) (.var 26)) (.and (.not (.cmp .lss (.var 27) (.var 32))) (.and (.not (.cmp .lss (.var 32) (.var 31))) (.and (.cmp .eql (.var 31) (.fn 6 (.pr (.var 24) (.int 1)))) (.and (.cmp .lss (.fn 6 (.pr (.var 24) (.int 1))) (.var 26)) (.and (.not (.cmp .lss (.var 24) (.int (-1)))) (.and (.not (.cmp .lss (.int 200) (.var 34))) (.and (.not (.cmp .lss (.var 34) (.int 1))) (.and (.not (.cmp .lss (.var 26) (.var 31))) (.and (.not (.cmp .lss (.var 31) (.int 0))) (.and (.fn 108 (.var 28)) (.and (.fn 107 (.var 28)) (.and (.fn 106 (.pr (.var 25) (.var 28))) (.and (.not (.cmp .lss (.var 29) (.var 26))) (.and (.not (.cmp .lss (.var 27) (.var 26))) (.and (.cmp .eql (.var 26) (.fn 0 (.var 28))) (.and (.not (.cmp .lss (.int 200) (.var 26))) (.and (.not (.cmp .lss (.var 26) (.int 1))) (.and (.not (.cmp .lss (.int 9) (.var 1))) (.and (.not (.cmp .lss (.var 1) (.int 1))) (.and (.not (.cmp .lss (.int 200) (.var 0))) (.not (.cmp .lss (.var 0) (.int 0)))))))))))))))))))))))))))))))))) (.fn 105 (.pr (.fn 3 (.pr (.var 33) (.fn 23 (.pr (.fn 1 (.pr (.var 28) (.var 24))) (.fn 10 (.int 0)))))) (.pr (.var 28) (.fn 6 (.pr (.ar .sub .i64 (.var 24) (.int 1)) (.int 1)))))))
theorem fact171 (ρ : Env) : E.B ρ f171 = true := by
  unfold f171
  rw [sm_B_imp]
  simp only [sm_B_and]
  rintro ⟨p0, p1, p2, p3, p4, p5, p6, p7, p8, p9, p10, p11, p12, p13, p14, p15, p16, p17, p18, p19, p20, p21, p22, p23, p24, p25, p26, p27, p28, p29, p30, p31⟩
  obtain ⟨v0, ev0, qv0⟩ := cs_i64 (E.I ρ (.var 36) + E.I ρ (.int 1))
  have ew0 : E.I ρ (.ar .add .i64 (.var 36) (.int 1)) = v0 := ev0
  obtain ⟨v1, ev1, qv1⟩ := cs_i64 (E.I ρ (.var 24) - E.I ρ (.int 1))
  have ew1 : E.I ρ (.ar .sub .i64 (.var 24) (.int 1)) = v1 := ev1
  first
    | exact t105_step (i := (.var 24)) p6 (by simp only [ints_app, ints_cons, ints_nil, ints_sub0, List.nil_append, List.append_nil, List.cons_append]) (by first | omega | (simp only [smA, ints_len, ew0, ew1] at *; first | done | omega)) (by first | omega | (simp only [smA, ints_len, ew0, ew1] at *; first | done | omega)) (by first | omega | (simp only [smA, ints_len, ew0, ew1] at *; first | done | omega)) (by first | omega | (simp only [smA, ints_len, ew0, ew1] at *; first | done | omega))
    | exact t105_first (i := (.var 24)) (by simp only [ints_app, ints_cons, ints_nil, ints_sub0, List.nil_append, List.append_nil, List.cons_append]) (by first | omega | (simp only [smA, ints_len, ew0, ew1] at *; first | done | omega)) (by first | omega | (simp only [smA, ints_len, ew0, ew1] at *; first | done | omega)) (by first | omega | (simp only [smA, ints_len, ew0, ew1] at *; first | done | omega))
noncomputable def f172 : E := (.imp (.and (.not (.cmp .lss (.var 24) (.int 0))) (.and (.cmp .eql (.var 36) (.fn 7 (.pr (.var 31) (.int 1)))) (.and (.not (.cmp .eql (.var 32) (.ar .add .i64 (.var 36) (.int 1)))) (.and (.cmp .eql (.var 35) (.var 34)) (.and (.not (.cmp .lss (.var 37) (.int 0))) (.and (.not (.cmp .lss (.var 37) (.fn 6 (.pr (.var 34) (.int 1))))) (.and (.fn 105 (.pr (.var 33) (.pr (.var 28) (.fn 6 (.pr (.var 24) (.int 1)))))) (.and (.fn 104 (.pr (.var 30) (.pr (.var 28) (.fn 6 (.pr (.var 24) (.int 1)))))) (.and (.not (.cmp .lss (.var 35) (.var 34))) (.and (.cmp .eql (.var 34) (.fn 0 (.var 33))) (.and (.cmp .eql (.fn 6 (.pr (.var 34) (.fn 6 (.pr (.var 24) (.int 1))))) (.var 26)) (.and (.not (.cmp .lss (.var 27) (.var 32))) (.and (.not (.cmp .lss (.var 32) (.var 31))) (.and (.cmp .eql (.var 31) (.fn 6 (.pr (.var 24) (.int 1)))) (.and (.cmp .lss (.fn 6 (.pr (.var 24) (.int 1))) (.var 26)) (.and (.not (.cmp .lss (.var 24) (.int (-1)))) (.and (.not (.cmp .lss (.int 200) (.var 34))) (.and (.not (.cmp .lss (.var 34) (.int 1))) (.and (.not (.cmp .lss (.var 26) (.var 31))) (.and (.not (.cmp .lss (.var 31) (.int 0))) (.and (.fn 108 (.var 28)) (.and (.fn 107 (.var 28)) (.and (.fn 106 (.pr (.var 25) (.var 28))) (.and (.not (.cmp .lss (.var 29) (.var 26))) (.and (.not (.cmp .lss (.var 27) (.var 26))) (.and (.cmp .eql (.var 26) (.fn 0 (.var 28))) (.and (.not (.cmp .lss (.int 200) (.var 26))) (.and (.not (.cmp .lss (.var 26) (.int 1))) (.and (.not (.cmp .lss (.int 9) (.var 1))) (.and (.not (.cmp .lss (.var 1) (.int 1))) (.and (.not (.cmp .lss (.int 200) (.var 0))) (.not (.cmp .lss (.var 0) (.int 0)))))))))))))))))))))))))))))))))) (.fn 105 (.pr (.fn 3 (.pr (.var 33) (.fn 23 (.pr (.fn 1 (.pr (.var 28) (.var 24))) (.fn 10 (.int 0)))))) (.pr (.var 28) (.fn 6 (.pr (.ar .sub .i64 (.var 24) (.int 1)) (.int 1)))))))
theorem fact172 (ρ : Env) : E.B ρ f172 = true := by
  unfold f172
  rw [sm_B_imp]
  simp only [sm_B_and]
  rintro ⟨p0, p1, p2, p3, p4, p5, p6, p7, p8, p9, p10, p11, p12, p13, p14, p15, p16, p17, p18, p19, p20, p21, p22, p23, p24, p25, p26, p27, p28, p29, p30, p31⟩
  obtain ⟨v0, ev0, qv0⟩ := cs_i64 (E.I ρ (.var 36) + E.I ρ (.int 1))
  have ew0 : E.I ρ (.ar .add .i64 (.var 36) (.int 1)) = v0 := ev0
  obtain ⟨v1, ev1, qv1⟩ := cs_i64 (E.I ρ (.var 24) - E.I ρ (.int 1))
  have ew1 : E.I ρ (.ar .sub .i64 (.var 24) (.int 1)) = v1 := ev1
  first
    | exact t105_step (i := (.var 24)) p6 (by simp only [ints_app, ints_cons, ints_nil, ints_sub0, List.nil_append, List.append_nil, List.cons_append]) (by first | omega | (simp only [smA, ints_len, ew0, ew1] at *; first | done | omega)) (by first | omega | (simp only [smA, ints_len, ew0, ew1] at *; first | done | omega)) (by first | omega | (simp only [smA, ints_len, ew0, ew1] at *; first | done | omega)) (by first | omega | (simp only [smA, ints_len, ew0, ew1] at *; first | done | omega))
    | exact t105_first (i := (.var 24)) (by simp only [ints_app, ints_cons, ints_nil, ints_sub0, List.nil_append, List.append_nil, List.cons_append]) (by first | omega | (simp only [smA, ints_len, ew0, ew1] at *; first | done | omega)) (by first | omega | (simp only [smA, ints_len, ew0, ew1] at *; first | done | omega)) (by first | omega | (simp only [smA, ints_len, ew0, ew1] at *; first | done | omega))
noncomputable def f173 : E := (.imp (.and (.not (.cmp .lss (.var 24) (.int 0))) (.and (.cmp .eql (.var 36) (.fn 7 (.pr (.var 31) (.int 1)))) (.and (.cmp .eql (.var 32) (.ar .add .i64 (.var 36) (.int 1))) (.and (.not (.cmp .eql (.var 35) (.var 34))) (.and (.not (.cmp .lss (.var 37) (.int 0))) (.and (.not (.cmp .lss (.var 37) (.fn 6 (.pr (.var 34) (.int 1))))) (.and (.fn 105 (.pr (.var 33) (.pr (.var 28) (.fn 6 (.pr (.var 24) (.int 1)))))) (.and (.fn 104 (.pr (.var 30) (.pr (.var 28) (.fn 6 (.pr (.var 24) (.int 1)))))) (.and (.not (.cmp .lss (.var 35) (.var 34))) (.and (.cmp .eql (.var 34) (.fn 0 (.var 33))) (.and (.cmp .eql (.fn 6 (.pr (.var 34) (.fn 6 (.pr (.var 24) (.int 1))))) (.var 26)) (.and (.not (.cmp .lss (.var 27) (.var 32))) (.and (.not (.cmp .lss (.var 32) (.var 31))) (.and (.cmp .eql (.var 31) (.fn 6 (.pr (.var 24) (.int 1)))) (.and (.cmp .lss (.fn 6 (.pr (.var 24) (.int 1))) (.var 26)) (.and (.not (.cmp .lss (.var 24) (.int (-1)))) (.and (.not (.cmp .lss (.int 200) (.var 34))) (.and (.not (.cmp .lss (.var 34) (.int 1))) (.and (.not (.cmp .lss (.var 26) (.var 31))) (.and (.not (.cmp .lss (.var 31) (.int 0))) (.and (.fn 108 (.var 28)) (.and (.fn 107 (.var 28)) (.and (.fn 106 (.pr (.var 25) (.var 28))) (.and (.not (.cmp .lss (.var 29) (.var 26))) (.and (.not (.cmp .lss (.var 27) (.var 26))) (.and (.cmp .eql (.var 26) (.fn 0 (.var 28))) (.and (.not (.cmp .lss (.int 200) (.var 26))) (.and (.not (.cmp .lss (.var 26) (.int 1))) (.and (.not (.cmp .lss (.int 9) (.var 1))) (.and (.not (.cmp .lss (.var 1) (.int 1))) (.and (.not (.cmp .lss (.int 200) (.var 0))) (.not (.cmp .lss (.var 0) (.int 0)))))))))))))))))))))))))))))))))) (.fn 105 (.pr (.fn 3 (.pr (.var 33) (.fn 23 (.pr (.fn 1 (.pr (.var 28) (.var 24))) (.fn 10 (.int 0)))))) (.pr (.var 28) (.fn 6 (.pr (.ar .sub .i64 (.var 24) (.int 1)) (.int 1)))))))
theorem fact173 (ρ : Env) : E.B ρ f173 = true := by
  unfold f173
  rw [sm_B_imp]
  simp only [sm_B_and]
  rintro ⟨p0, p1, p2, p3, p4, p5, p6, p7, p8, p9, p10, p11, p12, p13, p14, p15, p16, p17, p18, p19, p20, p21, p22, p23, p24, p25, p26, p27, p28, p29, p30, p31⟩
  obtain ⟨v0, ev0, qv0⟩ := cs_i64 (E.I ρ (.var 36) + E.I ρ (.int 1))
  have ew0 : E.I ρ (.ar .add .i64 (.var 36) (.int 1)) = v0 := ev0
  obtain ⟨v1, ev1, qv1⟩ := cs_i64 (E.I ρ (.var 24) - E.I ρ (.int 1))
  have ew1 : E.I ρ (.ar .sub .i64 (.var 24) (.int 1)) = v1 := ev1
  first
    | exact t105_step (i := (.var 24)) p6 (by simp only [ints_app, ints_cons, ints_nil, ints_sub0, List.nil_append, List.append_nil, List.cons_append]) (by first | omega | (simp only [smA, ints_len, ew0, ew1] at *; first | done | omega)) (by first | omega | (simp only [smA, ints_len, ew0, ew1] at *; first | done | omega)) (by first | omega | (simp only [smA, ints_len, ew0, ew1] at *; first | done | omega)) (by first | omega | (simp only [smA, ints_len, ew0, ew1] at *; first | done | omega))
    | exact t105_first (i := (.var 24)) (by simp only [ints_app, ints_cons, ints_nil, ints_sub0, List.nil_append, List.append_nil, List.cons_append]) (by first | omega | (simp only [smA, ints_len, ew0, ew1] at *; first | done | omega)) (by first | omega | (simp only [smA, ints_len, ew0, ew1] at *; first | done | omega)) (by first | omega | (simp only [smA, ints_len, ew0, ew1] at *; first | done | omega))
noncomputable def f174 : E := (.imp (.and (.not (.cmp .lss (.var 24) (.int 0))) (.and (.cmp .eql (.var 36) (.fn 7 (.pr (.var 31) (.int 1)))) (.and (.cmp .eql (.var 32) (.ar .add .i64 (.var 36) (.int 1))) (.and (.cmp .eql (.var 35) (.var 34)) (.and (.not (.cmp .lss (.var 37) (.int 0))) (.and (.not (.cmp .lss (.var 37) (.fn 6 (.pr (.var 34) (.int 1))))) (.and (.fn 105 (.pr (.var 33) (.pr (.var 28) (.fn 6 (.pr (.var 24) (.int 1)))))) (.and (.fn 104 (.pr (.var 30) (.pr (.var 28) (.fn 6 (.pr (.var 24) (.int 1)))))) (.and (.not (.cmp .lss (.var 35) (.var 34))) (.and (.cmp .eql (.var 34) (.fn 0 (.var 33))) (.and (.cmp .eql (.fn 6 (.pr (.var 34) (.fn 6 (.pr (.var 24) (.int 1))))) (.var 26)) (.and (.not (.cmp .lss (.var 27) (.var 32))) (.and (.not (.cmp .lss (.var 32) (.var 31))) (.and (.cmp .eql (.var 31) (.fn 6 (.pr (.var 24) (.int 1)))) (.and (.cmp .lss (.fn 6 (.pr (.var 24) (.int 1))) (.var 26)) (.and (.not (.cmp .lss (.var 24) (.int (-1)))) (.and (.not (.cmp .lss (.int 200) (.var 34))) (.and (.not (.cmp .lss (.var 34) (.int 1))) (.and (.not (.cmp .lss (.var 26) (.var 31))) (.and (.not (.cmp .lss (.var 31) (.int 0))) (.and (.fn 108 (.var 28)) (.and (.fn 107 (.var 28)) (.and (.fn 106 (.pr (.var 25) (.var 28))) (.and (.not (.cmp .lss (.var 29) (.var 26))) (.and (.not (.cmp .lss (.var 27) (.var 26))) (.and (.cmp .eql (.var 26) (.fn 0 (.var 28))) (.and (.not (.cmp .lss (.int 200) (.var 26))) (.and (.not (.cmp .lss (.var 26) (.int 1))) (.and (.not (.cmp .lss (.int 9) (.var 1))) (.and (.not (.cmp .lss (.var 1) (.int 1))) (.and (.not (.cmp .lss (.int 200) (.var 0))) (.not (.cmp .lss (.var 0) (.int 0)))))))))))))))))))))))))))))))))) (.fn 105 (.pr (.fn 3 (.pr (.var 33) (.fn 23 (.pr (.fn 1 (.pr (.var 28) (.var 24))) (.fn 10 (.int 0)))))) (.pr (.var 28) (.fn 6 (.pr (.ar .sub .i64 (.var 24) (.int 1)) (.int 1)))))))
theorem fact174 (ρ : Env) : E.B ρ f174 = true := by
  unfold f174
  rw [sm_B_imp]
  simp only [sm_B_and]
  rintro ⟨p0, p1, p2, p3, p4, p5, p6, p7, p8, p9, p10, p11, p12, p13, p14, p15, p16, p17, p18, p19, p20, p21, p22, p23, p24, p25, p26, p27, p28, p29, p30, p31⟩
  obtain ⟨v0, ev0, qv0⟩ := cs_i64 (E.I ρ (.var 36) + E.I ρ (.int 1))
  have ew0 : E.I ρ (.ar .add .i64 (.var 36) (.int 1)) = v0 := ev0
  obtain ⟨v1, ev1, qv1⟩ := cs_i64 (E.I ρ (.var 24) - E.I ρ (.int 1))
  have ew1 : E.I ρ (.ar .sub .i64 (.var 24) (.int 1)) = v1 := ev1
  first
    | exact t105_step (i := (.var 24)) p6 (by simp only [ints_app, ints_cons, ints_nil, ints_sub0, List.nil_append, List.append_nil, List.cons_append]) (by first | omega | (simp only [smA, ints_len, ew0, ew1] at *; first | done | omega)) (by first | omega | (simp only [smA, ints_len, ew0, ew1] at *; first | done | omega)) (by first | omega | (simp only [smA, ints_len, ew0, ew1] at *; first | done | omega)) (by first | omega | (simp only [smA, ints_len, ew0, ew1] at *; first | done | omega))
    | exact t105_first (i := (.var 24)) (by simp only [ints_app, ints_cons, ints_nil, ints_sub0, List.nil_append, List.append_nil, List.cons_append]) (by first | omega | (simp only [smA, ints_len, ew0, ew1] at *; first | done | omega)) (by first | omega | (simp only [smA, ints_len, ew0, ew1] at *; first | done | omega)) (by first | omega | (simp only [smA, ints_len, ew0, ew1] at *; first | done | omega))
noncomputable def f175 : E := (.imp (.and (.not (.cmp .lss (.var 35) (.var 34))) (.and (.cmp .eql (.var 34) (.fn 0 (.var 33))) (.and (.cmp .eql (.fn 6 (.pr (.var 34) (.fn 6 (.pr (.var 24) (.int 1))))) (.var 26)) (.and (.not (.cmp .lss (.var 27) (.var 32))) (.and (.not (.cmp .lss (.var 32) (.var 31))) (.and (.cmp .eql (.var 31) (.fn 6 (.pr (.var 24) (.int 1)))) (.and (.cmp .lss (.fn 6 (.pr (.var 24) (.int 1))) (.var 26)) (.and (.not (.cmp .lss (.var 24) (.int (-1)))) (.and (.not (.cmp .lss (.int 200) (.var 34))) (.and (.not (.cmp .lss (.var 34) (.int 1))) (.and (.not (.cmp .lss (.var 26) (.var 31))) (.and (.not (.cmp .lss (.var 31) (.int 0))) (.and (.not (.cmp .lss (.var 29) (.var 26))) (.and (.not (.cmp .lss (.var 27) (.var 26))) (.and (.cmp .eql (.var 26) (.fn 0 (.var 28))) (.and (.not (.cmp .lss (.int 200) (.var 26))) (.not (.cmp .lss (.var 26) (.int 1))))))))))))))))))) (.cmp .lss (.fn 6 (.pr (.ar .sub .i64 (.var 24) (.int 1)) (.int 1))) (.fn 6 (.pr (.var 24) (.int 1)))))
theorem fact175 (ρ : Env) : E.B ρ f175 = true := by
  unfold f175
  rw [sm_B_imp]
  simp only [sm_B_and]
  rintro ⟨p0, p1, p2, p3, p4, p5, p6, p7, p8, p9, p10, p11, p12, p13, p14, p15, p16⟩
  try simp only [smA, smW] at *
  try generalize E.I ρ (.var 35) = a0 at *
  try generalize E.I ρ (.var 34) = a1 at *
  have na2 := fn0_nn (ρ := ρ) (.var 33)
  try generalize E.I ρ (.fn 0 (.var 33)) = a2 at *
  try generalize E.I ρ (.var 24) = a3 at *
  try generalize E.I ρ (.var 26) = a4 at *
  try generalize E.I ρ (.var 27) = a5 at *
  try generalize E.I ρ (.var 32) = a6 at *
  try generalize E.I ρ (.var 31) = a7 at *
  try generalize E.I ρ (.var 29) = a8 at *
  have na9 := fn0_nn (ρ := ρ) (.var 28)
  try generalize E.I ρ (.fn 0 (.var 28)) = a9 at *
  obtain ⟨a10, ea10, qa10⟩ := cs_i64 (a3 - (1))
  try simp only [ea10] at *
  omega
noncomputable def f176 : E := (.imp (.and (.not (.cmp .lss (.var 24) (.int 0))) (.and (.not (.cmp .lss (.var 35) (.var 34))) (.and (.cmp .eql (.var 34) (.fn 0 (.var 33))) (.and (.cmp .eql (.fn 6 (.pr (.var 34) (.fn 6 (.pr (.var 24) (.int 1))))) (.var 26)) (.and (.not (.cmp .lss (.var 27) (.var 32))) (.and (.not (.cmp .lss (.var 32) (.var 31))) (.and (.cmp .eql (.var 31) (.fn 6 (.pr (.var 24) (.int 1)))) (.and (.cmp .lss (.fn 6 (.pr (.var 24) (.int 1))) (.var 26)) (.and (.not (.cmp .lss (.var 24) (.int (-1)))) (.and (.not (.cmp .lss (.int 200) (.var 34))) (.and (.not (.cmp .lss (.var 34) (.int 1))) (.and (.not (.cmp .lss (.var 26) (.var 31))) (.and (.not (.cmp .lss (.var 31) (.int 0))) (.and (.not (.cmp .lss (.var 29) (.var 26))) (.and (.not (.cmp .lss (.var 27) (.var 26))) (.and (.cmp .eql (.var 26) (.fn 0 (.var 28))) (.and (.not (.cmp .lss (.int 200) (.var 26))) (.not (.cmp .lss (.var 26) (.int 1)))))))))))))))))))) (.not (.cmp .lss (.fn 6 (.pr (.ar .sub .i64 (.var 24) (.int 1)) (.int 1))) (.int 0))))
theorem fact176 (ρ : Env) : E.B ρ f176 = true := by
  unfold f176
  rw [sm_B_imp]
  simp only [sm_B_and]
  rintro ⟨p0, p1, p2, p3, p4, p5, p6, p7, p8, p9, p10, p11, p12, p13, p14, p15, p16, p17⟩
  try simp only [smA, smW] at *
  try generalize E.I ρ (.var 24) = a0 at *
  try generalize E.I ρ (.var 35) = a1 at *
  try generalize E.I ρ (.var 34) = a2 at *
  have na3 := fn0_nn (ρ := ρ) (.var 33)
  try generalize E.I ρ (.fn 0 (.var 33)) = a3 at *
  try generalize E.I ρ (.var 26) = a4 at *
  try generalize E.I ρ (.var 27) = a5 at *
  try generalize E.I ρ (.var 32) = a6 at *
  try generalize E.I ρ (.var 31) = a7 at *
  try generalize E.I ρ (.var 29) = a8 at *
  have na9 := fn0_nn (ρ := ρ) (.var 28)
  try generalize E.I ρ (.fn 0 (.var 28)) = a9 at *
  obtain ⟨a10, ea10, qa10⟩ := cs_i64 (a0 - (1))
  try simp only [ea10] at *
  omega
noncomputable def facts : List E := [f0, f1, f2, f3, f4, f5, f6, f7, f8, f9, f10, f11, f12, f13, f14, f15, f16, f17, f18, f19, f20, f21, f22, f23, f24, f25, f26, f27, f28, f29, f30, f31, f32, f33, f34, f35, f36, f37, f38, f39, f40, f41, f42, f43, f44, f45, f46, f47, f48, f49, f50, f51, f52, f53, f54, f55, f56, f57, f58, f59, f60, f61, f62, f63, f64, f65, f66, f67, f68, f69, f70, f71, f72, f73, f74, f75, f76, f77, f78, f79, f80, f81, f82, f83, f84, f85, f86, f87, f88, f89, f90, f91, f92, f93, f94, f95, f96, f97, f98, f99, f100, f101, f102, f103, f104, f105, f106, f107, f108, f109, f110, f111, f112, f113, f114, f115, f116, f117, f118, f119, f120, f121, f122, f123, f124, f125, f126, f127, f128, f129, f130, f131, f132, f133, f134, f135, f136, f137, f138, f139, f140, f141, f142, f143, f144, f145, f146, f147, f148, f149, f150, f151, f152, f153, f154, f155, f156, f157, f158, f159, f160, f161, f162, f163, f164, f165, f166, f167, f168, f169, f170, f171, f172, f173, f174, f175, f176]
theorem facts_ok : ∀ e ∈ facts, ∀ ρ : Env, E.B ρ e = true := (all_cons fact0 (all_cons fact1 (all_cons fact2 (all_cons fact3 (all_cons fact4 (all_cons fact5 (all_cons fact6 (all_cons fact7 (all_cons fact8 (all_cons fact9 (all_cons fact10 (all_cons fact11 (all_cons fact12 (all_cons fact13 (all_cons fact14 (all_cons fact15 (all_cons fact16 (all_cons fact17 (all_cons fact18 (all_cons fact19 (all_cons fact20 (all_cons fact21 (all_cons fact22 (all_cons fact23 (all_cons fact24 (all_cons fact25 (all_cons fact26 (all_cons fact27 (all_cons fact28 (all_cons fact29 (all_cons fact30 (all_cons fact31 (all_cons fact32 (all_cons fact33 (all_cons fact34 (all_cons fact35 (all_cons fact36 (all_cons fact37 (all_cons fact38 (all_cons fact39 (all_cons fact40 (all_cons fact41 (all_cons fact42 (all_cons fact43 (all_cons fact44 (all_cons fact45 (all_cons fact46 (all_cons fact47 (all_cons fact48 (all_cons fact49 (all_cons fact50 (all_cons fact51 (all_cons fact52 (all_cons fact53 (all_cons fact54 (all_cons fact55 (all_cons fact56 (all_cons fact57 (all_cons fact58 (all_cons fact59 (all_cons fact60 (all_cons fact61 (all_cons fact62 (all_cons fact63 (all_cons fact64 (all_cons fact65 (all_cons fact66 (all_cons fact67 (all_cons fact68 (all_cons fact69 (all_cons fact70 (all_cons fact71 (all_cons fact72 (all_cons fact73 (all_cons fact74 (all_cons fact75 (all_cons fact76 (all_cons fact77 (all_cons fact78 (all_cons fact79 (all_cons fact80 (all_cons fact81 (all_cons fact82 (all_cons fact83 (all_cons fact84 (all_cons fact85 (all_cons fact86 (all_cons fact87 (all_cons fact88 (all_cons fact89 (all_cons fact90 (all_cons fact91 (all_cons fact92 (all_cons fact93 (all_cons fact94 (all_cons fact95 (all_cons fact96 (all_cons fact97 (all_cons fact98 (all_cons fact99 (all_cons fact100 (all_cons fact101 (all_cons fact102 (all_cons fact103 (all_cons fact104 (all_cons fact105 (all_cons fact106 (all_cons fact107 (all_cons fact108 (all_cons fact109 (all_cons fact110 (all_cons fact111 (all_cons fact112 (all_cons fact113 (all_cons fact114 (all_cons fact115 (all_cons fact116 (all_cons fact117 (all_cons fact118 (all_cons fact119 (all_cons fact120 (all_cons fact121 (all_cons fact122 (all_cons fact123 (all_cons fact124 (all_cons fact125 (all_cons fact126 (all_cons fact127 (all_cons fact128 (all_cons fact129 (all_cons fact130 (all_cons fact131 (all_cons fact132 (all_cons fact133 (all_cons fact134 (all_cons fact135 (all_cons fact136 (all_cons fact137 (all_cons fact138 (all_cons fact139 (all_cons fact140 (all_cons fact141 (all_cons fact142 (all_cons fact143 (all_cons fact144 (all_cons fact145 (all_cons fact146 (all_cons fact147 (all_cons fact148 (all_cons fact149 (all_cons fact150 (all_cons fact151 (all_cons fact152 (all_cons fact153 (all_cons fact154 (all_cons fact155 (all_cons fact156 (all_cons fact157 (all_cons fact158 (all_cons fact159 (all_cons fact160 (all_cons fact161 (all_cons fact162 (all_cons fact163 (all_cons fact164 (all_cons fact165 (all_cons fact166 (all_cons fact167 (all_cons fact168 (all_cons fact169 (all_cons fact170 (all_cons fact171 (all_cons fact172 (all_cons fact173 (all_cons fact174 (all_cons fact175 (all_cons fact176 all_nil)))))))))))))))))))))))))))))))))))))))))))))))))))))))))))))))))))))))))))))))))))))))))))))))))))))))))))))))))))))))))))))))))))))))))))))))))))))))))))))))))))))))))))))))))
end m
set_option maxRecDepth 100000 in
theorem reckoned : withTab Try.prog (fun tb => checkAll outTrue (run Try.prog (tb.plus m.facts anns natl5) 3000 (.call 4 args) .nil (varSt 2 pc0) SX.one)) = true := by kernel_rfl

set_option maxRecDepth 100000 in
theorem walk {H : Type} (W : World) (base : Nat) (enc : TypeId × Value → H) (v0 : Value) (d0 : DataW H) (p0 : List MemPlace) (v1 : Value) (d1 : DataW H) (p1 : List MemPlace)
    (o0 : Value.okWide Try.prog W .any base 3 v0) (h0 : DataW.Trod enc Try.prog W 0 (fun _ => true) true 3 v0 d0 p0)
    (o1 : Value.okWide Try.prog W .any base 3 v1) (h1 : DataW.Trod enc Try.prog W 0 (fun _ => true) true 3 v1 d1 p1) :
    Calls Try.prog 4 #[v0, v1] W fun e W' => e = .returned (.bool true) ∧ Below W.heap.size W W' := by
  obtain ⟨x0, rfl, _, _, w0⟩ := open_int Try.underlying3 o0 h0
  have r0 := wf_i64 w0
  obtain ⟨x1, rfl, _, _, w1⟩ := open_int Try.underlying3 o1 h1
  have r1 := wf_i64 w1

  refine true_of_check2 good (facts := m.facts) m.facts_ok (anns := anns) (plainAnns_ok _ (by kernel_rfl)) natl5_ok (vs := [.int x0, .int x1]) (pc := pc0) reckoned ?_ W ⟨trivial, ⟨trivial, trivial⟩⟩
  unfold pc0
  try simp only [u64R, i64R, List.cons_append, List.nil_append]
  repeat' (refine pc_cons ?_ ?_)
  all_goals first
    | exact pc_nil
    | (first | fail | skip; done)
    | (simp only [eLe, eLt, eV, Env.of, sm_I_int, sm_I_var, sm_B_lss, sm_B_not, getD_cons_zero, getD_cons_succ, toI_int]; omega)

set_option maxRecDepth 100000 in
theorem lifted (os : Os) (started : os.Started) (H : Type) (enc : TypeId × Value → H) :
    ReturnsInHanded {} Try.checked os 4 .any (Rows.zoneManySpec.pre6 enc Try.prog Try.f4 Rows.zoneManyRow.domain false) (Rows.zoneManySpec.post enc Try.prog Try.f4 false true false false) := by
  refine returnsInHanded_of_change (C := Try.checked) own started (by kernel_rfl) Try.func4
    (ChangeSpec.witness6 (enc := enc) (C := Try.checked) false ⟨#[], #[.int .i64 0, .int .i64 0], []⟩ 8 (by kernel_rfl) (by kernel_rfl) (by kernel_rfl) (by kernel_rfl)) ?_
  intro W base args ds gs before hval0 hW hcnd _
  have hval : ∀ (j : Nat) t v, Try.f4.params[j]? = some t → args[j]? = some v → Value.okWide Try.prog W .any base t v := hval0
  have hW' := hW
  obtain ⟨p, q, hA0, hV, rfl, hfz, hnd⟩ := hW
  have hA : DataW.TrodAll enc Try.prog W 0 (fun _ => true) true Try.f4.params.toList args.toList ds p := hA0
  rw [Try.params4] at hA hval
  obtain ⟨v0, vs0, d0, ds0, p0, q0, hargs, rfl, rfl, h0, r0⟩ := trodAll_cons hA
  obtain ⟨v1, vs1, d1, ds1, p1, q1, rfl, rfl, rfl, h1, r1⟩ := trodAll_cons r0
  obtain ⟨rfl, rfl, rfl⟩ := trodAll_nil r1
  obtain rfl : args = #[v0, v1] := by cases args; simp_all
  obtain ⟨rfl, rfl⟩ := trodVars_none hV
  have lt0 : ∀ x ∈ p0, x.block < W.heap.size := by obtain ⟨m, hm⟩ := h0; exact DataW.trod_lt m _ _ _ hm
  have lt1 : ∀ x ∈ p1, x.block < W.heap.size := by obtain ⟨m, hm⟩ := h1; exact DataW.trod_lt m _ _ _ hm
  have o0 := hval 0 3 v0 rfl rfl
  have o1 := hval 1 3 v1 rfl rfl
  clear hA0 hval0
  refine (walk W base enc v0 d0 p0 v1 d1 p1 o0 h0 o1 h1).mono fun e W' ⟨he, bel⟩ => ?_
  subst he
  exact ⟨_, rfl, _, _, _, [], _, [], hW', trodAll_mk1 (shut_bool Try.underlying4 _), (trodAll_cons_mk (Below.trod laidOut (by kernel_rfl) (of_decide_eq_true (by kernel_rfl)) h0 bel lt0) (trodAll_cons_mk (Below.trod laidOut (by kernel_rfl) (of_decide_eq_true (by kernel_rfl)) h1 bel lt1) trodAll_mk0)), rfl, bel.frame _, fun h => by cases h⟩

theorem over : Rows.zoneManyRow.holds Try.pinned (OpenSpec.ofChange Rows.zoneManySpec) :=
  OpenClaim.holds_of_wide 4 Try.f4 rfl rfl rfl rfl rfl rfl rfl ⟨rfl, rfl, rfl, rfl, rfl⟩ rfl rfl rfl rfl rfl (by kernel_rfl) Try.func4 (by kernel_rfl)
    (of_decide_eq_true (by kernel_rfl)) (by unfold Func.isWrapper; first | (rw [if_pos (by decide +kernel)]; kernel_rfl) | (rw [if_neg (by decide +kernel)]; exact ⟨rfl, rfl⟩))
    (fun os started H enc _ => lifted os started H enc)

theorem proved : Rows.ZoneManySaid := over

end Go.Proofs.Ytfifefjbckmfeaa.zoneMany
