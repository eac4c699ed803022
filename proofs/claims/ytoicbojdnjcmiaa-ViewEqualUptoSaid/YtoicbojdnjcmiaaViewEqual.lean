/-
  ViewEqual: one reckoning by the kernel, with what is known at the loops' heads, contracts of functions, and facts of arithmetic.
-/
import Derived.Test.YtoicbojdnjcmiaaRows
import Derived.Test.YtoicbojdnjcmiaaTheory
import Derived.WalkKit
import Derived.ProofKit
import Derived.OpenShut
import Derived.ChangeOld
import Derived.Below
import Derived.KernelRfl
import Derived.Lib.SmallJoins
import Derived.JoinedCond
import Derived.Test.YtoicbojdnjcmiaaViewEqualPartd
namespace Go.Proofs.Ytoicbojdnjcmiaa.viewEqual
open Go.ChangeShapes Go.WideShapes Go.ChangeAt Go.RowKit
open Go.SX
set_option linter.unusedVariables false
set_option linter.unusedSimpArgs false
set_option maxRecDepth 100000
noncomputable section
abbrev Z0 : E := .var 0
abbrev Z1 : E := .fn 105 (.pr Z0 (.var 1))
abbrev Z2 : E := .fn 112 (.var 1)
abbrev Z3 : E := .fn 112 Z0
abbrev Z4 : E := .var 17
abbrev Z5 : E := .cmp .lss (.int 10000) Z4
abbrev Z6 : E := .not Z5
abbrev Z7 : E := .cmp .eql Z4 (.var 20)
abbrev Z8 : E := .var 19
abbrev Z9 : E := .cmp .eql (.var 20) (.fn 0 Z8)
abbrev Z10 : E := .var 16
abbrev Z11 : E := .cmp .eql Z4 (.fn 0 Z10)
abbrev Z12 : E := .and Z7 (.and Z9 Z11)
abbrev Z13 : E := .and Z6 Z12
abbrev Z14 : E := .var 22
abbrev Z15 : E := .cmp .lss Z14 Z4
abbrev Z16 : E := .and (.fn 106 (.pr Z8 (.var 1))) (.fn 106 (.pr Z10 Z0))
abbrev Z17 : E := .cmp .eql (.fn 1 (.pr Z10 Z14)) (.fn 1 (.pr Z8 Z14))
abbrev Z18 : E := .ar .add .i64 Z14 (.int 1)
abbrev Z19 : E := .and Z2 (.and Z3 (.and Z15 (.and (.not (.cmp .lss Z14 (.int 0))) Z13)))
abbrev Z20 : E := .var 9
abbrev Z21 : E := .cmp .lss (.int 1048576) (.fn 117 Z0)
abbrev Z22 : E := .not Z21
abbrev Z23 : E := .cmp .lss Z20 (.fn 9 (.pr Z0 (.int 5)))
abbrev Z24 : E := .cmp .eql (.var 8) (.fn 114 (.pr Z0 Z20))
abbrev Z25 : E := .ar .add .i64 Z20 (.int 1)
abbrev Z26 : E := .and Z22 (.and (.fn 118 (.pr (.int 2) Z0)) (.and Z23 (.not (.cmp .lss Z20 (.int 0)))))
abbrev Z27 : E := .mx (.fn 9 (.pr (.fn 1 (.pr Z0 (.int 29))) (.int 12))) (.fn 9 (.pr (.fn 1 (.pr Z0 (.int 30))) (.int 5)))
abbrev Z28 : E := .mx Z27 (.fn 9 (.pr (.fn 1 (.pr Z0 (.int 31))) (.int 5)))
abbrev Z29 : E := .mx Z28 (.fn 0 (.fn 1 (.pr Z0 (.int 32))))
abbrev Z30 : E := .mx Z29 (.fn 9 (.pr (.fn 1 (.pr Z0 (.int 33))) (.int 2)))
abbrev Z31 : E := .mx Z30 (.fn 9 (.pr (.fn 1 (.pr Z0 (.int 42))) (.int 3)))
abbrev Z32 : E := .mx Z31 (.fn 9 (.pr (.fn 1 (.pr Z0 (.int 8))) (.int 12)))
abbrev Z33 : E := .mx Z32 (.fn 9 (.pr (.fn 1 (.pr Z0 (.int 9))) (.int 12)))
abbrev Z34 : E := .mx Z33 (.fn 9 (.pr (.fn 1 (.pr Z0 (.int 22))) (.int 12)))
abbrev Z35 : E := .mx Z34 (.fn 9 (.pr (.fn 1 (.pr Z0 (.int 23))) (.int 12)))
abbrev Z36 : E := .cmp .lss (.int 60) Z35
abbrev Z37 : E := .cmp .eql (.var 1) (.fn 114 (.pr (.fn 1 (.pr Z0 (.int 30))) (.fn 9 (.pr (.fn 1 (.pr Z0 (.int 30))) (.int 5)))))
namespace p14
def f0 : E := (.imp (.and (.cmp .eql (.var 3) (.fn 0 (.var 2))) (.and (.fn 106 (.pr (.var 2) Z0)) (.and (.cmp .eql (.var 6) (.fn 0 (.var 5))) (.and (.fn 106 (.pr (.var 5) (.var 1))) (.not (.cmp .eql (.var 3) (.var 6))))))) (.iff (.bool false) Z1))
theorem fact0 (ρ : Env) : E.B ρ f0 = true := by
  unfold f0
  rw [sm_B_imp]
  simp only [sm_B_and]
  rintro ⟨p0, p1, p2, p3, p4⟩
  rw [sm_B_iff, sm_B_bool]
  simp only [Bool.false_eq_true, false_iff]
  exact s_len p1 p3 (by simp only [smZ] at * <;> omega)
def f1 : E := (.imp (.not (.cmp .lss (.int 10000) (.var 3))) (.fn 111 (.pr (.var 2) (.pr (.var 5) (.int 0)))))
theorem fact1 (ρ : Env) : E.B ρ f1 = true := by
  unfold f1
  rw [sm_B_imp]
  intro p0
  exact s_zero (Int.le_refl 0)
def f2 : E := (.imp (.and Z2 (.and Z3 Z13)) (.not (.cmp .lss Z4 (.int 0))))
theorem fact2 (ρ : Env) : E.B ρ f2 = true := by
  unfold f2
  rw [sm_B_imp]
  simp only [sm_B_and]
  rintro ⟨p0, p1, p2, p3, p4, p5⟩
  try simp only [smZ] at *
  have n3 := @fn0_nn ρ Z8
  have n4 := @fn0_nn ρ Z10
  omega
def f3 : E := (.imp (.and Z2 (.and Z3 (.and Z15 Z12))) (.cmp .lss Z14 (.var 20)))
theorem fact3 (ρ : Env) : E.B ρ f3 = true := by
  unfold f3
  rw [sm_B_imp]
  simp only [sm_B_and]
  rintro ⟨p0, p1, p2, p3, p4, p5⟩
  try simp only [smZ] at *
  have n4 := @fn0_nn ρ Z8
  have n5 := @fn0_nn ρ Z10
  omega
def f4 : E := (.imp (.and (.not Z15) (.and (.not (.cmp .lss Z4 Z14)) (.and Z7 (.and Z9 (.and Z11 (.and (.fn 111 (.pr Z10 (.pr Z8 Z14))) Z16)))))) (.iff (.bool true) Z1))
theorem fact4 (ρ : Env) : E.B ρ f4 = true := by
  unfold f4
  rw [sm_B_imp]
  simp only [sm_B_and]
  rintro ⟨p0, p1, p2, p3, p4, p5, p6, p7⟩
  rw [sm_B_iff, sm_B_bool]
  simp only [true_iff]
  exact s_full p7 p6 p5 (by simp only [smZ] at * <;> omega) (by simp only [smZ] at * <;> omega)
def f5 : E := (.imp (.and (.not Z17) Z16) (.iff (.bool false) Z1))
theorem fact5 (ρ : Env) : E.B ρ f5 = true := by
  unfold f5
  rw [sm_B_imp]
  simp only [sm_B_and]
  rintro ⟨p0, p1, p2⟩
  rw [sm_B_iff, sm_B_bool]
  simp only [Bool.false_eq_true, false_iff]
  exact s_diff p2 p1 (by have q := p0; rwa [sm_B_not, sm_B_eql] at q)
def f6 : E := (.imp (.and Z15 (.and Z17 (.and (.not (.cmp .lss Z14 (.int 0))) (.and Z6 (.and Z7 (.and Z9 (.and Z11 (.and (.fn 111 (.pr Z10 (.pr Z8 Z14))) (.and Z2 Z3))))))))) (.fn 111 (.pr Z10 (.pr Z8 Z18))))
theorem fact6 (ρ : Env) : E.B ρ f6 = true := by
  unfold f6
  rw [sm_B_imp]
  simp only [sm_B_and]
  rintro ⟨p0, p1, p2, p3, p4, p5, p6, p7, p8, p9⟩
  have g0 : E.I ρ Z18 = E.I ρ (.fn 6 (.pr Z14 (.int 1))) := by
    try simp only [smZ] at *
    have n6 := @fn0_nn ρ Z8
    have n7 := @fn0_nn ρ Z10
    obtain ⟨a7, ea7, qa7⟩ := cs_i64 ((E.I ρ Z14) + (1))
    try simp only [ea7] at *
    omega
  exact s_step p7 (by simp only [smZ] at * <;> omega) (by simp only [smZ] at * <;> omega) (by simp only [smZ] at * <;> omega) (by have q := p1; rwa [sm_B_eql] at q) g0
def f7 : E := (.imp Z19 (.not (.cmp .lss Z18 (.int 0))))
theorem fact7 (ρ : Env) : E.B ρ f7 = true := by
  unfold f7
  rw [sm_B_imp]
  simp only [sm_B_and]
  rintro ⟨p0, p1, p2, p3, p4, p5, p6, p7⟩
  try simp only [smZ] at *
  have n4 := @fn0_nn ρ Z8
  have n5 := @fn0_nn ρ Z10
  obtain ⟨a5, ea5, qa5⟩ := cs_i64 ((E.I ρ Z14) + (1))
  try simp only [ea5] at *
  omega
def f8 : E := (.imp Z19 (.not (.cmp .lss Z4 Z18)))
theorem fact8 (ρ : Env) : E.B ρ f8 = true := by
  unfold f8
  rw [sm_B_imp]
  simp only [sm_B_and]
  rintro ⟨p0, p1, p2, p3, p4, p5, p6, p7⟩
  try simp only [smZ] at *
  have n4 := @fn0_nn ρ Z8
  have n5 := @fn0_nn ρ Z10
  obtain ⟨a5, ea5, qa5⟩ := cs_i64 ((E.I ρ Z14) + (1))
  try simp only [ea5] at *
  omega
def f9 : E := (.imp Z19 (.cmp .lss (.fn 7 (.pr Z4 Z18)) (.fn 7 (.pr Z4 Z14))))
theorem fact9 (ρ : Env) : E.B ρ f9 = true := by
  unfold f9
  rw [sm_B_imp]
  simp only [sm_B_and]
  rintro ⟨p0, p1, p2, p3, p4, p5, p6, p7⟩
  try simp only [smZ] at *
  have n4 := @fn0_nn ρ Z8
  have n5 := @fn0_nn ρ Z10
  obtain ⟨a5, ea5, qa5⟩ := cs_i64 ((E.I ρ Z14) + (1))
  try simp only [ea5] at *
  omega
def f10 : E := (.imp Z19 (.not (.cmp .lss (.fn 7 (.pr Z4 Z18)) (.int 0))))
theorem fact10 (ρ : Env) : E.B ρ f10 = true := by
  unfold f10
  rw [sm_B_imp]
  simp only [sm_B_and]
  rintro ⟨p0, p1, p2, p3, p4, p5, p6, p7⟩
  try simp only [smZ] at *
  have n4 := @fn0_nn ρ Z8
  have n5 := @fn0_nn ρ Z10
  obtain ⟨a5, ea5, qa5⟩ := cs_i64 ((E.I ρ Z14) + (1))
  try simp only [ea5] at *
  omega
def facts : List E := [f0, f1, f2, f3, f4, f5, f6, f7, f8, f9, f10]
theorem facts_ok : ∀ e ∈ facts, ∀ ρ : Env, E.B ρ e = true := (all_cons fact0 (all_cons fact1 (all_cons fact2 (all_cons fact3 (all_cons fact4 (all_cons fact5 (all_cons fact6 (all_cons fact7 (all_cons fact8 (all_cons fact9 (all_cons fact10 all_nil)))))))))))
end p14
set_option maxRecDepth 100000 in
theorem spec14_0 : NatOk Try.prog (specNat (spS)) :=
  spec_of_check good (facts := p14.facts) p14.facts_ok (anns := annS) (plainAnns_ok _ (by kernel_rfl)) (nats := natl15) natl15_ok (n := 3000) (by kernel_rfl)
def natl16 : List Nat1 := specNat (spS) :: natl15
theorem natl16_ok : ∀ x ∈ natl16, NatOk Try.prog x := by
  intro x hx
  rcases List.mem_cons.1 hx with rfl | hx
  · exact spec14_0
  exact natl15_ok x hx

namespace p15
def f0 : E := (.imp (.and (.fn 104 (.pr (.var 2) (.pr (.var 5) (.pr Z0 (.int 43))))) (.fn 104 (.pr (.var 6) (.pr Z20 (.pr (.var 1) (.int 43)))))) (.iff (.seq (.fn 41 (.var 2)) (.fn 41 (.var 6))) Z1))
theorem fact0 (ρ : Env) : E.B ρ f0 = true := by
  unfold f0
  rw [sm_B_imp]
  simp only [sm_B_and]
  rintro ⟨p0, p1⟩
  exact t_equal p0 p1
def facts : List E := [f0]
theorem facts_ok : ∀ e ∈ facts, ∀ ρ : Env, E.B ρ e = true := (all_cons fact0 all_nil)
end p15
set_option maxRecDepth 100000 in
theorem spec15_0 : NatOk Try.prog (specNat (spE)) :=
  spec_of_check good (facts := p15.facts) p15.facts_ok (anns := []) (plainAnns_ok _ (by kernel_rfl)) (nats := natl16) natl16_ok (n := 3000) (by kernel_rfl)
def natl17 : List Nat1 := specNat (spE) :: natl16
theorem natl17_ok : ∀ x ∈ natl17, NatOk Try.prog x := by
  intro x hx
  rcases List.mem_cons.1 hx with rfl | hx
  · exact spec15_0
  exact natl16_ok x hx

namespace p16
def f0 : E := (.imp Z22 (.cmp .eql (.fn 114 (.pr Z0 (.int 0))) (.int 0)))
theorem fact0 (ρ : Env) : E.B ρ f0 = true := by
  unfold f0
  rw [sm_B_imp]
  intro p0
  have ht0 := @tg_nn ρ Z0 (.int 0)
  have hu0 := tg_zero (ρ := ρ) (l := Z0) (i := (.int 0)) (Int.le_refl 0)
  have hg0 := tg_size (ρ := ρ) (l := Z0) (i := (.int 0))
  try simp only [smZ] at *
  omega
def f1 : E := (.imp (.and Z23 (.and (.not (.cmp .lss Z20 (.int 0))) (.and Z24 (.and Z22 (.fn 118 (.pr (.int 2) Z0)))))) (.cmp .eql (.ar .add .i64 (.var 8) (.fn 9 (.pr (.fn 1 (.pr Z0 (.fn 6 (.pr (.fn 8 (.pr Z20 (.int 5))) (.int 4))))) (.int 2)))) (.fn 114 (.pr Z0 Z25))))
theorem fact1 (ρ : Env) : E.B ρ f1 = true := by
  unfold f1
  rw [sm_B_imp]
  simp only [sm_B_and]
  rintro ⟨p0, p1, p2, p3, p4⟩
  have g0 : E.I ρ Z25 = E.I ρ (.fn 6 (.pr Z20 (.int 1))) := by
    have hr0 := @rows_nn ρ Z0 (5)
    have hr1 := @rows_nn ρ (.fn 1 (.pr Z0 (.fn 6 (.pr (.fn 8 (.pr Z20 (.int 5))) (.int 4))))) (2)
    have ht0 := @tg_nn ρ Z0 Z20
    have ht1 := @tg_nn ρ Z0 Z25
    have hs0 := rows_size (ρ := ρ) (l := Z0) (w := (5))
    have hg0 := tg_size (ρ := ρ) (l := Z0) (i := Z20)
    have hg1 := tg_size (ρ := ρ) (l := Z0) (i := Z25)
    have hm0 := tg_le (i := Z20) p4 (by simp only [smZ] at * <;> omega) (by simp only [smZ] at * <;> omega)
    have hn0 := rows_nn (ρ := ρ) (l := (.fn 1 (.pr Z0 (.fn 6 (.pr (.fn 8 (.pr Z20 (.int 5))) (.int 4)))))) (w := 2)
    have ho0 := tg_nn (ρ := ρ) (l := Z0) (i := Z20)
    try simp only [smZ] at *
    obtain ⟨a5, ea5, qa5⟩ := cs_i64 ((E.I ρ Z20) + (1))
    try simp only [ea5] at *
    omega
  have g1 := tg_step (i := Z20) (j := Z25) p4 (by simp only [smZ] at * <;> omega) (by simp only [smZ] at * <;> omega) g0
  have hr0 := @rows_nn ρ Z0 (5)
  have hr1 := @rows_nn ρ (.fn 1 (.pr Z0 (.fn 6 (.pr (.fn 8 (.pr Z20 (.int 5))) (.int 4))))) (2)
  have ht0 := @tg_nn ρ Z0 Z20
  have ht1 := @tg_nn ρ Z0 Z25
  have hs0 := rows_size (ρ := ρ) (l := Z0) (w := (5))
  have hg0 := tg_size (ρ := ρ) (l := Z0) (i := Z20)
  have hg1 := tg_size (ρ := ρ) (l := Z0) (i := Z25)
  have hm0 := tg_le (i := Z20) p4 (by simp only [smZ] at * <;> omega) (by simp only [smZ] at * <;> omega)
  have hn0 := rows_nn (ρ := ρ) (l := (.fn 1 (.pr Z0 (.fn 6 (.pr (.fn 8 (.pr Z20 (.int 5))) (.int 4)))))) (w := 2)
  have ho0 := tg_nn (ρ := ρ) (l := Z0) (i := Z20)
  try simp only [smZ] at *
  obtain ⟨a7, ea7, qa7⟩ := cs_i64 ((E.I ρ (.var 8)) + (E.I ρ (.fn 9 (.pr (.fn 1 (.pr Z0 (.fn 6 (.pr (.fn 8 (.pr Z20 (.int 5))) (.int 4))))) (.int 2)))))
  try simp only [ea7] at *
  omega
def f2 : E := (.imp (.and (.not Z23) (.and (.not (.cmp .lss (.fn 9 (.pr Z0 (.int 5))) Z20)) Z24)) (.cmp .eql (.var 8) (.fn 114 (.pr Z0 (.fn 9 (.pr Z0 (.int 5)))))))
theorem fact2 (ρ : Env) : E.B ρ f2 = true := by
  unfold f2
  rw [sm_B_imp]
  simp only [sm_B_and]
  rintro ⟨p0, p1, p2⟩
  have hr0 := @rows_nn ρ Z0 (5)
  have ht0 := @tg_nn ρ Z0 Z20
  have ht1 := @tg_nn ρ Z0 (.fn 9 (.pr Z0 (.int 5)))
  have hz00 := tg_mono (ρ := ρ) (l := Z0) (i := (.fn 9 (.pr Z0 (.int 5)))) (j := Z20) (by simp only [smZ] at * <;> omega)
  have hk10 := tg_mono (ρ := ρ) (l := Z0) (i := Z20) (j := (.fn 9 (.pr Z0 (.int 5)))) (by simp only [smZ] at * <;> omega)
  try simp only [smZ] at *
  omega
def f3 : E := (.imp Z26 (.not (.cmp .lss Z25 (.int 0))))
theorem fact3 (ρ : Env) : E.B ρ f3 = true := by
  unfold f3
  rw [sm_B_imp]
  simp only [sm_B_and]
  rintro ⟨p0, p1, p2, p3⟩
  have hr0 := @rows_nn ρ Z0 (5)
  have hs0 := rows_size (ρ := ρ) (l := Z0) (w := (5))
  have hm2 := tg_le (i := Z20) p1 (by simp only [smZ] at * <;> omega) (by simp only [smZ] at * <;> omega)
  have hn2 := rows_nn (ρ := ρ) (l := (.fn 1 (.pr Z0 (.fn 6 (.pr (.fn 8 (.pr Z20 (.int 5))) (.int 4)))))) (w := 2)
  have ho2 := tg_nn (ρ := ρ) (l := Z0) (i := Z20)
  try simp only [smZ] at *
  obtain ⟨a3, ea3, qa3⟩ := cs_i64 ((E.I ρ Z20) + (1))
  try simp only [ea3] at *
  omega
def f4 : E := (.imp Z26 (.not (.cmp .lss (.fn 9 (.pr Z0 (.int 5))) Z25)))
theorem fact4 (ρ : Env) : E.B ρ f4 = true := by
  unfold f4
  rw [sm_B_imp]
  simp only [sm_B_and]
  rintro ⟨p0, p1, p2, p3⟩
  have hr0 := @rows_nn ρ Z0 (5)
  have hs0 := rows_size (ρ := ρ) (l := Z0) (w := (5))
  have hm2 := tg_le (i := Z20) p1 (by simp only [smZ] at * <;> omega) (by simp only [smZ] at * <;> omega)
  have hn2 := rows_nn (ρ := ρ) (l := (.fn 1 (.pr Z0 (.fn 6 (.pr (.fn 8 (.pr Z20 (.int 5))) (.int 4)))))) (w := 2)
  have ho2 := tg_nn (ρ := ρ) (l := Z0) (i := Z20)
  try simp only [smZ] at *
  obtain ⟨a3, ea3, qa3⟩ := cs_i64 ((E.I ρ Z20) + (1))
  try simp only [ea3] at *
  omega
def f5 : E := (.imp Z26 (.cmp .lss (.fn 7 (.pr (.fn 9 (.pr Z0 (.int 5))) Z25)) (.fn 7 (.pr (.fn 9 (.pr Z0 (.int 5))) Z20))))
theorem fact5 (ρ : Env) : E.B ρ f5 = true := by
  unfold f5
  rw [sm_B_imp]
  simp only [sm_B_and]
  rintro ⟨p0, p1, p2, p3⟩
  have hr0 := @rows_nn ρ Z0 (5)
  have hs0 := rows_size (ρ := ρ) (l := Z0) (w := (5))
  have hm2 := tg_le (i := Z20) p1 (by simp only [smZ] at * <;> omega) (by simp only [smZ] at * <;> omega)
  have hn2 := rows_nn (ρ := ρ) (l := (.fn 1 (.pr Z0 (.fn 6 (.pr (.fn 8 (.pr Z20 (.int 5))) (.int 4)))))) (w := 2)
  have ho2 := tg_nn (ρ := ρ) (l := Z0) (i := Z20)
  try simp only [smZ] at *
  obtain ⟨a3, ea3, qa3⟩ := cs_i64 ((E.I ρ Z20) + (1))
  try simp only [ea3] at *
  omega
def f6 : E := (.imp Z26 (.not (.cmp .lss (.fn 7 (.pr (.fn 9 (.pr Z0 (.int 5))) Z25)) (.int 0))))
theorem fact6 (ρ : Env) : E.B ρ f6 = true := by
  unfold f6
  rw [sm_B_imp]
  simp only [sm_B_and]
  rintro ⟨p0, p1, p2, p3⟩
  have hr0 := @rows_nn ρ Z0 (5)
  have hs0 := rows_size (ρ := ρ) (l := Z0) (w := (5))
  have hm2 := tg_le (i := Z20) p1 (by simp only [smZ] at * <;> omega) (by simp only [smZ] at * <;> omega)
  have hn2 := rows_nn (ρ := ρ) (l := (.fn 1 (.pr Z0 (.fn 6 (.pr (.fn 8 (.pr Z20 (.int 5))) (.int 4)))))) (w := 2)
  have ho2 := tg_nn (ρ := ρ) (l := Z0) (i := Z20)
  try simp only [smZ] at *
  obtain ⟨a3, ea3, qa3⟩ := cs_i64 ((E.I ρ Z20) + (1))
  try simp only [ea3] at *
  omega
def facts : List E := [f0, f1, f2, f3, f4, f5, f6]
theorem facts_ok : ∀ e ∈ facts, ∀ ρ : Env, E.B ρ e = true := (all_cons fact0 (all_cons fact1 (all_cons fact2 (all_cons fact3 (all_cons fact4 (all_cons fact5 (all_cons fact6 all_nil)))))))
end p16
set_option maxRecDepth 100000 in
theorem spec16_0 : NatOk Try.prog (specNat (spTg)) :=
  spec_of_check good (facts := p16.facts) p16.facts_ok (anns := annTg) (plainAnns_ok _ (by kernel_rfl)) (nats := natl17) natl17_ok (n := 3000) (by kernel_rfl)
def natl18 : List Nat1 := specNat (spTg) :: natl17
theorem natl18_ok : ∀ x ∈ natl18, NatOk Try.prog x := by
  intro x hx
  rcases List.mem_cons.1 hx with rfl | hx
  · exact spec16_0
  exact natl17_ok x hx

namespace p17
def f0 : E := (.imp (.fn 119 Z0) (.fn 118 (.pr (.int 2) (.fn 1 (.pr Z0 (.int 30))))))
theorem fact0 (ρ : Env) : E.B ρ f0 = true := by
  unfold f0
  rw [sm_B_imp]
  intro p0
  exact vl p0 30 rfl
def f1 : E := (.imp Z36 (.iff (.bool false) Z3))
theorem fact1 (ρ : Env) : E.B ρ f1 = true := by
  unfold f1
  rw [sm_B_imp]
  intro p0
  rw [sm_B_iff, sm_B_bool]
  simp only [Bool.false_eq_true, false_iff]
  intro hc
  rw [z112'] at hc
  have hr0 := @rows_nn ρ (.fn 1 (.pr Z0 (.int 29))) (12)
  have hr1 := @rows_nn ρ (.fn 1 (.pr Z0 (.int 30))) (5)
  have hr2 := @rows_nn ρ (.fn 1 (.pr Z0 (.int 31))) (5)
  have hr3 := @rows_nn ρ (.fn 1 (.pr Z0 (.int 33))) (2)
  have hr4 := @rows_nn ρ (.fn 1 (.pr Z0 (.int 42))) (3)
  have hr5 := @rows_nn ρ (.fn 1 (.pr Z0 (.int 8))) (12)
  have hr6 := @rows_nn ρ (.fn 1 (.pr Z0 (.int 9))) (12)
  have hr7 := @rows_nn ρ (.fn 1 (.pr Z0 (.int 22))) (12)
  have hr8 := @rows_nn ρ (.fn 1 (.pr Z0 (.int 23))) (12)
  try simp only [smZ] at *
  have n4 := @fn0_nn ρ (.fn 1 (.pr Z0 (.int 32)))
  omega
def f2 : E := (.imp Z22 (.not (.cmp .lss (.int 1048576) (.fn 117 (.fn 1 (.pr Z0 (.int 30)))))))
theorem fact2 (ρ : Env) : E.B ρ f2 = true := by
  unfold f2
  rw [sm_B_imp]
  intro p0
  have g0 := v_size (ρ := ρ) (X := Z0) (a := (.fn 1 (.pr Z0 (.int 30)))) 30 rfl
  try simp only [smZ] at *
  omega
def f3 : E := (.imp (.fn 119 Z0) (.fn 118 (.pr (.int 2) (.fn 1 (.pr Z0 (.int 31))))))
theorem fact3 (ρ : Env) : E.B ρ f3 = true := by
  unfold f3
  rw [sm_B_imp]
  intro p0
  exact vl p0 31 rfl
def f4 : E := (.imp (.and Z37 (.cmp .lss (.int 200) (.var 1))) (.iff (.bool false) Z3))
theorem fact4 (ρ : Env) : E.B ρ f4 = true := by
  unfold f4
  rw [sm_B_imp]
  simp only [sm_B_and]
  rintro ⟨p0, p1⟩
  rw [sm_B_iff, sm_B_bool]
  simp only [Bool.false_eq_true, false_iff]
  intro hc
  rw [z112'] at hc
  have hr0 := @rows_nn ρ (.fn 1 (.pr Z0 (.int 30))) (5)
  have ht0 := @tg_nn ρ (.fn 1 (.pr Z0 (.int 30))) (.fn 9 (.pr (.fn 1 (.pr Z0 (.int 30))) (.int 5)))
  try simp only [smZ] at *
  omega
def f5 : E := (.imp Z22 (.not (.cmp .lss (.int 1048576) (.fn 117 (.fn 1 (.pr Z0 (.int 31)))))))
theorem fact5 (ρ : Env) : E.B ρ f5 = true := by
  unfold f5
  rw [sm_B_imp]
  intro p0
  have g0 := v_size (ρ := ρ) (X := Z0) (a := (.fn 1 (.pr Z0 (.int 31)))) 31 rfl
  try simp only [smZ] at *
  omega
def f6 : E := (.imp (.and (.not Z36) (.and Z37 (.and (.not (.cmp .lss (.int 200) (.var 1))) (.cmp .eql (.var 2) (.fn 114 (.pr (.fn 1 (.pr Z0 (.int 31))) (.fn 9 (.pr (.fn 1 (.pr Z0 (.int 31))) (.int 5))))))))) (.iff (.not (.cmp .lss (.int 200) (.var 2))) Z3))
theorem fact6 (ρ : Env) : E.B ρ f6 = true := by
  unfold f6
  rw [sm_B_imp]
  simp only [sm_B_and]
  rintro ⟨p0, p1, p2, p3⟩
  have hr0 := @rows_nn ρ (.fn 1 (.pr Z0 (.int 29))) (12)
  have hr1 := @rows_nn ρ (.fn 1 (.pr Z0 (.int 30))) (5)
  have hr2 := @rows_nn ρ (.fn 1 (.pr Z0 (.int 31))) (5)
  have hr3 := @rows_nn ρ (.fn 1 (.pr Z0 (.int 33))) (2)
  have hr4 := @rows_nn ρ (.fn 1 (.pr Z0 (.int 42))) (3)
  have hr5 := @rows_nn ρ (.fn 1 (.pr Z0 (.int 8))) (12)
  have hr6 := @rows_nn ρ (.fn 1 (.pr Z0 (.int 9))) (12)
  have hr7 := @rows_nn ρ (.fn 1 (.pr Z0 (.int 22))) (12)
  have hr8 := @rows_nn ρ (.fn 1 (.pr Z0 (.int 23))) (12)
  have ht0 := @tg_nn ρ (.fn 1 (.pr Z0 (.int 30))) (.fn 9 (.pr (.fn 1 (.pr Z0 (.int 30))) (.int 5)))
  have ht1 := @tg_nn ρ (.fn 1 (.pr Z0 (.int 31))) (.fn 9 (.pr (.fn 1 (.pr Z0 (.int 31))) (.int 5)))
  try simp only [smZ] at *
  have n4 := @fn0_nn ρ (.fn 1 (.pr Z0 (.int 32)))
  omega
def facts : List E := [f0, f1, f2, f3, f4, f5, f6]
theorem facts_ok : ∀ e ∈ facts, ∀ ρ : Env, E.B ρ e = true := (all_cons fact0 (all_cons fact1 (all_cons fact2 (all_cons fact3 (all_cons fact4 (all_cons fact5 (all_cons fact6 all_nil)))))))
end p17
set_option maxRecDepth 100000 in
theorem spec17_0 : NatOk Try.prog (specNat (spL)) :=
  spec_of_check good (facts := p17.facts) p17.facts_ok (anns := []) (plainAnns_ok _ (by kernel_rfl)) (nats := natl18) natl18_ok (n := 3000) (by kernel_rfl)
def natl19 : List Nat1 := specNat (spL) :: natl18
theorem natl19_ok : ∀ x ∈ natl19, NatOk Try.prog x := by
  intro x hx
  rcases List.mem_cons.1 hx with rfl | hx
  · exact spec17_0
  exact natl18_ok x hx

namespace m
def f0 : E := (.imp (.and (.iff (.var 2) Z3) (.var 2)) Z3)
theorem fact0 (ρ : Env) : E.B ρ f0 = true := by
  unfold f0
  rw [sm_B_imp]
  simp only [sm_B_and]
  rintro ⟨p0, p1⟩
  simp only [sm_B_iff] at *
  have h105 := @t105_self ρ Z0
  simp_all
def f1 : E := (.imp (.and (.iff (.var 3) Z2) (.var 3)) Z2)
theorem fact1 (ρ : Env) : E.B ρ f1 = true := by
  unfold f1
  rw [sm_B_imp]
  simp only [sm_B_and]
  rintro ⟨p0, p1⟩
  simp only [sm_B_iff] at *
  have h105 := @t105_self ρ Z0
  simp_all
def f2 : E := (.imp (.and (.iff (.var 4) Z1) (.iff (.var 5) Z1)) (.iff (.var 4) (.var 5)))
theorem fact2 (ρ : Env) : E.B ρ f2 = true := by
  unfold f2
  rw [sm_B_imp]
  simp only [sm_B_and]
  rintro ⟨p0, p1⟩
  simp only [sm_B_iff] at *
  have h105 := @t105_self ρ Z0
  simp_all
def f3 : E := (.imp (.iff (.var 6) (.fn 105 (.pr Z0 Z0))) (.var 6))
theorem fact3 (ρ : Env) : E.B ρ f3 = true := by
  unfold f3
  rw [sm_B_imp]
  intro p0
  simp only [sm_B_iff] at *
  have h105 := @t105_self ρ Z0
  simp_all
def facts : List E := [f0, f1, f2, f3]
theorem facts_ok : ∀ e ∈ facts, ∀ ρ : Env, E.B ρ e = true := (all_cons fact0 (all_cons fact1 (all_cons fact2 (all_cons fact3 all_nil))))
end m
set_option maxRecDepth 100000 in
theorem reckoned : withTab Try.prog (fun tb => checkAll outTrue (run Try.prog (tb.plus m.facts [] natl19) 3000 (.call 9 args) .nil (varSt 2 pc0) SX.one)) = true := by kernel_rfl

set_option maxRecDepth 100000 in
theorem walk {H : Type} (W : World) (base : Nat) (enc : TypeId × Value → H) (v0 : Value) (d0 : DataW H) (p0 : List MemPlace) (v1 : Value) (d1 : DataW H) (p1 : List MemPlace)
    (o0 : Value.okWide Try.prog W .any base 45 v0) (h0 : DataW.Trod enc Try.prog W 0 (fun _ => true) true 45 v0 d0 p0)
    (o1 : Value.okWide Try.prog W .any base 45 v1) (h1 : DataW.Trod enc Try.prog W 0 (fun _ => true) true 45 v1 d1 p1)
    (bk : Rows.uptoBulkAll [d0, d1] ≤ 1048576) :
    Calls Try.prog 9 #[v0, v1] W fun e W' => e = .returned (.bool true) ∧ Below W.heap.size W W' := by
  obtain ⟨x0, rfl, l0, k0, w0, s0⟩ := open_row bulkOk (n := 9) (ks := kV) Try.underlying45 (by kernel_rfl) o0 h0
  obtain ⟨x1, rfl, l1, k1, w1, s1⟩ := open_row bulkOk (n := 9) (ks := kV) Try.underlying45 (by kernel_rfl) o1 h1

  refine true_of_check2 good (facts := m.facts) m.facts_ok (anns := []) (plainAnns_ok _ (by kernel_rfl)) natl19_ok (vs := [.lst x0, .lst x1]) (pc := pc0) reckoned ?_ W ⟨⟨trivial, trivial, trivial, trivial, trivial, trivial, trivial, trivial, k0 8 _ rfl, k0 9 _ rfl, trivial, trivial, trivial, trivial, trivial, trivial, trivial, trivial, trivial, trivial, trivial, trivial, k0 22 _ rfl, k0 23 _ rfl, trivial, trivial, trivial, trivial, trivial, k0 29 _ rfl, k0 30 _ rfl, k0 31 _ rfl, k0 32 _ rfl, k0 33 _ rfl, trivial, trivial, trivial, trivial, trivial, trivial, trivial, trivial, k0 42 _ rfl, trivial⟩, ⟨⟨trivial, trivial, trivial, trivial, trivial, trivial, trivial, trivial, k1 8 _ rfl, k1 9 _ rfl, trivial, trivial, trivial, trivial, trivial, trivial, trivial, trivial, trivial, trivial, trivial, trivial, k1 22 _ rfl, k1 23 _ rfl, trivial, trivial, trivial, trivial, trivial, k1 29 _ rfl, k1 30 _ rfl, k1 31 _ rfl, k1 32 _ rfl, k1 33 _ rfl, trivial, trivial, trivial, trivial, trivial, trivial, trivial, trivial, k1 42 _ rfl, trivial⟩, trivial⟩⟩
  unfold pc0
  try simp only [u64R, i64R, List.cons_append, List.nil_append]
  repeat' (refine pc_cons ?_ ?_)
  all_goals first
    | exact pc_nil
    | (exact ty_view l0 w0)
    | (exact ty_view l1 w1)
    | (exact sz_view (us := x0) (by simp only [Rows.uptoBulkAll] at bk; have a0 := one_le d0; have a1 := one_le d1; omega))
    | (exact sz_view (us := x1) (by simp only [Rows.uptoBulkAll] at bk; have a0 := one_le d0; have a1 := one_le d1; omega))
    | (first | fail | skip; done)
    | (simp only [eLe, eLt, eV, Env.of, sm_I_int, sm_I_var, sm_B_lss, sm_B_not, getD_cons_zero, getD_cons_succ, toI_int]; omega)

theorem contract (H : Type) (enc : TypeId × Value → H) (W : World) (base : Nat) (args : Array Value) (ds gs : List (DataW H)) (before : List MemPlace)
    (hval0 : ∀ (j : Nat) t v, Try.f9.params[j]? = some t → args[j]? = some v → Value.okWide Try.prog W .any base t v)
    (hW : DataW.Whole enc Try.prog Try.f9.params.toList Rows.viewEqualSpec.vars false W args.toList ds gs before) (hk : Rows.uptoSmall H (ds ++ gs) = true) :
    Calls Try.prog 9 args W fun e W' => ∃ v, e = .returned v ∧ Rows.viewEqualSpec.post enc Try.prog Try.f9 false true false false W args v W' := by
  have hval : ∀ (j : Nat) t v, Try.f9.params[j]? = some t → args[j]? = some v → Value.okWide Try.prog W .any base t v := hval0
  have hW' := hW
  obtain ⟨p, q, hA0, hV, rfl, hfz, hnd⟩ := hW
  have hA : DataW.TrodAll enc Try.prog W 0 (fun _ => true) true Try.f9.params.toList args.toList ds p := hA0
  rw [Try.params9] at hA hval
  obtain ⟨v0, vs0, d0, ds0, p0, q0, hargs, rfl, rfl, h0, r0⟩ := trodAll_cons hA
  obtain ⟨v1, vs1, d1, ds1, p1, q1, rfl, rfl, rfl, h1, r1⟩ := trodAll_cons r0
  obtain ⟨rfl, rfl, rfl⟩ := trodAll_nil r1
  obtain rfl : args = #[v0, v1] := by cases args; simp_all
  obtain ⟨rfl, rfl⟩ := trodVars_none hV
  have lt0 : ∀ x ∈ p0, x.block < W.heap.size := by obtain ⟨m, hm⟩ := h0; exact DataW.trod_lt m _ _ _ hm
  have lt1 : ∀ x ∈ p1, x.block < W.heap.size := by obtain ⟨m, hm⟩ := h1; exact DataW.trod_lt m _ _ _ hm
  have o0 := hval 0 45 v0 rfl rfl
  have o1 := hval 1 45 v1 rfl rfl
  clear hA0 hval0
  have bk : Rows.uptoBulkAll [d0, d1] ≤ 1048576 := of_decide_eq_true hk
  refine (walk W base enc v0 d0 p0 v1 d1 p1 o0 h0 o1 h1 bk).mono fun e W' ⟨he, bel⟩ => ?_
  subst he
  exact ⟨_, rfl, _, _, _, [], _, [], hW', trodAll_mk1 (shut_bool Try.underlying4 _), (trodAll_cons_mk (Below.trod laidOut (by kernel_rfl) (of_decide_eq_true (by kernel_rfl)) h0 bel lt0) (trodAll_cons_mk (Below.trod laidOut (by kernel_rfl) (of_decide_eq_true (by kernel_rfl)) h1 bel lt1) trodAll_mk0)), rfl, bel.frame _, fun h => by cases h⟩

set_option maxRecDepth 100000 in
theorem lifted (os : Os) (started : os.Started) (H : Type) (enc : TypeId × Value → H) (F : Stop.Interp) :
    ReturnsInHanded {} Try.checked os 9 .any ((Rows.OpenSpec.upto Rows.viewEqualSpec).pre6 enc Try.prog Try.f9 Rows.viewEqualUptoRow.domain false) (((Rows.OpenSpec.upto Rows.viewEqualSpec).at F).post enc Try.prog Try.f9 false true false false) := by
  refine returnsInHanded_of_cond (C := Try.checked) (s := Rows.OpenSpec.upto Rows.viewEqualSpec) (k := Rows.uptoSmall) rfl own started (by kernel_rfl) Try.func9
    (OpenSpec.witness (enc := enc) (C := Try.checked) (s := Rows.OpenSpec.upto Rows.viewEqualSpec) (k := Rows.uptoSmall) rfl false ⟨#[], #[.agg #[.int .i64 0, .int .i64 0, .int .i64 0, .int .i64 0, .int .i64 0, .int .i64 0, .int .i64 0, .int .i64 0, .slice none 0 0, .slice none 0 0, .bool false, .bool false, .bool false, .int .i64 0, .int .i64 0, .int .i64 0, .int .i64 0, .int .i64 0, .int .i64 0, .int .i64 0, .int .i64 0, .int .i64 0, .slice none 0 0, .slice none 0 0, .bool false, .bool false, .bool false, .int .i64 0, .int .i64 0, .slice none 0 0, .slice none 0 0, .slice none 0 0, .slice none 0 0, .slice none 0 0, .int .i64 0, .int .i64 0, .int .i64 0, .int .i64 0, .int .i64 0, .int .i64 0, .int .i64 0, .int .i64 0, .slice none 0 0], .agg #[.int .i64 0, .int .i64 0, .int .i64 0, .int .i64 0, .int .i64 0, .int .i64 0, .int .i64 0, .int .i64 0, .slice none 0 0, .slice none 0 0, .bool false, .bool false, .bool false, .int .i64 0, .int .i64 0, .int .i64 0, .int .i64 0, .int .i64 0, .int .i64 0, .int .i64 0, .int .i64 0, .int .i64 0, .slice none 0 0, .slice none 0 0, .bool false, .bool false, .bool false, .int .i64 0, .int .i64 0, .slice none 0 0, .slice none 0 0, .slice none 0 0, .slice none 0 0, .slice none 0 0, .int .i64 0, .int .i64 0, .int .i64 0, .int .i64 0, .int .i64 0, .int .i64 0, .int .i64 0, .int .i64 0, .slice none 0 0]], []⟩ 8 (by kernel_rfl) (by kernel_rfl) (by kernel_rfl)
      (x := ([.agg [.lit (.int .i64 0), .agg [.agg [.lit (.int .i64 0), .agg [.lit (.int .i64 0), .lit (.int .i64 0), .lit (.int .i64 0), .lit (.int .i64 0)], .lit (.int .i64 0), .lit (.int .i64 0), .nil, .nil, .lit (.bool false), .lit (.bool false), .lit (.bool false), .lit (.int .i64 0), .lit (.int .i64 0)], .agg [.lit (.int .i64 0), .agg [.lit (.int .i64 0), .lit (.int .i64 0), .lit (.int .i64 0), .lit (.int .i64 0)], .lit (.int .i64 0), .lit (.int .i64 0), .nil, .nil, .lit (.bool false), .lit (.bool false), .lit (.bool false), .lit (.int .i64 0), .lit (.int .i64 0)]], .nil, .nil, .nil, .nil, .nil, .lit (.int .i64 0), .lit (.int .i64 0), .lit (.int .i64 0), .lit (.int .i64 0), .lit (.int .i64 0), .lit (.int .i64 0), .lit (.int .i64 0), .lit (.int .i64 0), .nil], .agg [.lit (.int .i64 0), .agg [.agg [.lit (.int .i64 0), .agg [.lit (.int .i64 0), .lit (.int .i64 0), .lit (.int .i64 0), .lit (.int .i64 0)], .lit (.int .i64 0), .lit (.int .i64 0), .nil, .nil, .lit (.bool false), .lit (.bool false), .lit (.bool false), .lit (.int .i64 0), .lit (.int .i64 0)], .agg [.lit (.int .i64 0), .agg [.lit (.int .i64 0), .lit (.int .i64 0), .lit (.int .i64 0), .lit (.int .i64 0)], .lit (.int .i64 0), .lit (.int .i64 0), .nil, .nil, .lit (.bool false), .lit (.bool false), .lit (.bool false), .lit (.int .i64 0), .lit (.int .i64 0)]], .nil, .nil, .nil, .nil, .nil, .lit (.int .i64 0), .lit (.int .i64 0), .lit (.int .i64 0), .lit (.int .i64 0), .lit (.int .i64 0), .lit (.int .i64 0), .lit (.int .i64 0), .lit (.int .i64 0), .nil]], [], [])) (by kernel_rfl) rfl (by kernel_rfl)) ?_
  intro W base args ds gs before hval hW _ hk _
  exact contract H enc W base args ds gs before hval hW hk

theorem over : Rows.viewEqualUptoRow.holds Try.pinned (Rows.OpenSpec.upto Rows.viewEqualSpec) :=
  OpenClaim.holds_of_cond 9 Try.f9 rfl rfl rfl rfl rfl rfl rfl ⟨rfl, rfl, rfl, rfl, rfl⟩ rfl rfl rfl rfl rfl (by kernel_rfl) Try.func9 (by kernel_rfl)
    (of_decide_eq_true (by kernel_rfl)) (by unfold Func.isWrapper; first | (rw [if_pos (by decide +kernel)]; kernel_rfl) | (rw [if_neg (by decide +kernel)]; exact ⟨rfl, rfl⟩))
    (fun os started H enc _ F => lifted os started H enc F)

theorem proved : Rows.ViewEqualUptoSaid := over

end
end Go.Proofs.Ytoicbojdnjcmiaa.viewEqual
