/-
  DrawsPlays: contracts of functions, part 2.
-/
import Derived.Test.YtmcifbikfjmmfaaRows
import Derived.Test.YtmcifbikfjmmfaaNat
import Derived.WalkKit
import Derived.ProofKit
import Derived.OpenShut
import Derived.ChangeOld
import Derived.Below
import Derived.KernelRfl
import Derived.Lib.SmallJoins
import Derived.Test.YtmcifbikfjmmfaaDrawsPlaysParta
namespace Go.Proofs.Ytmcifbikfjmmfaa.drawsPlays
open Go.ChangeShapes Go.WideShapes Go.ChangeAt Go.RowKit
open Go.SX
set_option linter.unusedVariables false
set_option linter.unusedSimpArgs false
set_option maxRecDepth 100000
noncomputable abbrev J0 : E := .var 2
noncomputable abbrev J1 : E := .ar .sub .i64 (.fn 0 J0) (.int 1)
noncomputable abbrev J2 : E := .var 0
noncomputable abbrev J3 : E := .cmp .lss (.fn 0 J2) J1
noncomputable abbrev J4 : E := .cmp .lss (.int 60) (.fn 0 J0)
noncomputable abbrev J5 : E := .not J4
noncomputable abbrev J6 : E := .cmp .lss (.fn 0 J0) (.int 1)
noncomputable abbrev J7 : E := .not J6
noncomputable abbrev J8 : E := .and J5 J7
noncomputable abbrev J9 : E := .cmp .lss (.fn 0 J2) (.fn 7 (.pr (.fn 0 J0) (.int 1)))
noncomputable abbrev J10 : E := .not J9
noncomputable abbrev J11 : E := .var 1
noncomputable abbrev J12 : E := .var 10
noncomputable abbrev J13 : E := .var 8
noncomputable abbrev J14 : E := .fn 111 (.pr J12 (.pr J2 (.fn 7 (.pr (.fn 7 (.pr (.fn 0 J0) (.int 1))) J13))))
noncomputable abbrev J15 : E := .cmp .lss J13 (.int 1)
noncomputable abbrev J16 : E := .var 9
noncomputable abbrev J17 : E := .pr (.int 0) (.fn 7 (.pr (.fn 7 (.pr (.fn 0 J0) (.int 1))) J13))
noncomputable abbrev J18 : E := .pr J2 J17
noncomputable abbrev J19 : E := .pr J13 J18
noncomputable abbrev J20 : E := .pr J0 J19
noncomputable abbrev J21 : E := .pr J16 J20
noncomputable abbrev J22 : E := .fn 120 J21
noncomputable abbrev J23 : E := .cmp .eql (.var 11) (.fn 6 (.pr J11 (.fn 7 (.pr (.fn 7 (.pr (.fn 0 J0) (.int 1))) J13))))
noncomputable abbrev J24 : E := .cmp .lss J13 (.int 0)
noncomputable abbrev J25 : E := .not J24
noncomputable abbrev J26 : E := .and J14 J25
noncomputable abbrev J27 : E := .and J23 J26
noncomputable abbrev J28 : E := .cmp .lss J13 (.fn 0 J0)
noncomputable abbrev J29 : E := .not J15
noncomputable abbrev J30 : E := .not (.cmp .lss (.int 300) (.fn 0 J2))
noncomputable abbrev J31 : E := .and J5 J30
noncomputable abbrev J32 : E := .and J29 J31
noncomputable abbrev J33 : E := .and J7 J32
noncomputable abbrev J34 : E := .cmp .lss J11 (.int 0)
noncomputable abbrev J35 : E := .not J34
noncomputable abbrev J36 : E := .cmp .eql (.fn 0 J16) (.fn 0 J0)
noncomputable abbrev J37 : E := .cmp .lss (.int 300) (.fn 6 (.pr J11 (.fn 0 J2)))
noncomputable abbrev J38 : E := .not J37
noncomputable abbrev J39 : E := .and J38 J35
noncomputable abbrev J40 : E := .and J28 J39
noncomputable abbrev J41 : E := .and J23 J40
noncomputable abbrev J42 : E := .and J36 J41
noncomputable abbrev J43 : E := .ar .add .i64 J13 (.int 1)
noncomputable abbrev J44 : E := .var 12
noncomputable abbrev J45 : E := .pr J12 (.int 1)
noncomputable abbrev J46 : E := .pr J44 J45
noncomputable abbrev J47 : E := .fn 111 J46
noncomputable abbrev J48 : E := .and J47 J42
noncomputable abbrev J49 : E := .and J29 J48
noncomputable abbrev J50 : E := .and (.fn 131 J2) J49
noncomputable abbrev J51 : E := .and J10 J50
noncomputable abbrev J52 : E := .and J14 J51
noncomputable abbrev J53 : E := .ar .rem .u64 (.fn 1 (.pr J12 (.int 0))) (.wr .u64 J43)
noncomputable abbrev J54 : E := .wr .i64 J53
noncomputable abbrev J55 : E := .and J10 J49
noncomputable abbrev J56 : E := .and J14 J55
noncomputable abbrev J57 : E := .ar .sub .i64 J13 (.int 1)
namespace p6
noncomputable def f0 : E := (.imp (.cmp .eql (.fn 0 J0) (.int 0)) (.cmp .lss J1 (.int 1)))
theorem fact0 (ρ : Env) : E.B ρ f0 = true := by
  unfold f0
  rw [sm_B_imp]
  intro p0
  try simp only [smA, smW] at *
  have n1 := fn0_nn (ρ := ρ) J0
  obtain ⟨a1, ea1, qa1⟩ := cs_i64 ((E.I ρ (.fn 0 J0)) - (1))
  try simp only [ea1] at *
  omega
noncomputable def f1 : E := (.imp (.cmp .eql (.fn 0 J0) (.int 0)) (.not J3))
theorem fact1 (ρ : Env) : E.B ρ f1 = true := by
  unfold f1
  rw [sm_B_imp]
  intro p0
  try simp only [smA, smW] at *
  have n1 := fn0_nn (ρ := ρ) J0
  have n2 := fn0_nn (ρ := ρ) J2
  obtain ⟨a2, ea2, qa2⟩ := cs_i64 ((E.I ρ (.fn 0 J0)) - (1))
  try simp only [ea2] at *
  omega
noncomputable def facts : List E := [f0, f1]
theorem facts_ok : ∀ e ∈ facts, ∀ ρ : Env, E.B ρ e = true := (all_cons fact0 (all_cons fact1 all_nil))
end p6
set_option maxRecDepth 100000 in
theorem spec6_0 : NatOk Try.prog (specNat (spQ0)) :=
  spec_of_check good (facts := p6.facts) p6.facts_ok (anns := []) (plainAnns_ok _ (by kernel_rfl)) (nats := natl7) natl7_ok (n := 3000) (by kernel_rfl)
noncomputable def natl8 : List Nat1 := specNat (spQ0) :: natl7
theorem natl8_ok : ∀ x ∈ natl8, NatOk Try.prog x := by
  intro x hx
  rcases List.mem_cons.1 hx with rfl | hx
  · exact spec6_0
  exact natl7_ok x hx

namespace p7
noncomputable def f0 : E := (.imp (.and J3 J8) J9)
theorem fact0 (ρ : Env) : E.B ρ f0 = true := by
  unfold f0
  rw [sm_B_imp]
  simp only [sm_B_and]
  rintro ⟨p0, p1, p2⟩
  try simp only [smA, smW] at *
  have n1 := fn0_nn (ρ := ρ) J2
  have n2 := fn0_nn (ρ := ρ) J0
  obtain ⟨a2, ea2, qa2⟩ := cs_i64 ((E.I ρ (.fn 0 J0)) - (1))
  try simp only [ea2] at *
  omega
noncomputable def f1 : E := (.imp (.and (.not J3) J8) J10)
theorem fact1 (ρ : Env) : E.B ρ f1 = true := by
  unfold f1
  rw [sm_B_imp]
  simp only [sm_B_and]
  rintro ⟨p0, p1, p2⟩
  try simp only [smA, smW] at *
  have n1 := fn0_nn (ρ := ρ) J2
  have n2 := fn0_nn (ρ := ρ) J0
  obtain ⟨a2, ea2, qa2⟩ := cs_i64 ((E.I ρ (.fn 0 J0)) - (1))
  try simp only [ea2] at *
  omega
noncomputable def f2 : E := (.imp J8 (.not (.cmp .lss J1 (.int 0))))
theorem fact2 (ρ : Env) : E.B ρ f2 = true := by
  unfold f2
  rw [sm_B_imp]
  simp only [sm_B_and]
  rintro ⟨p0, p1⟩
  try simp only [smA, smW] at *
  have n1 := fn0_nn (ρ := ρ) J0
  obtain ⟨a1, ea1, qa1⟩ := cs_i64 ((E.I ρ (.fn 0 J0)) - (1))
  try simp only [ea1] at *
  omega
noncomputable def f3 : E := (.imp J8 (.cmp .lss J1 (.fn 0 J0)))
theorem fact3 (ρ : Env) : E.B ρ f3 = true := by
  unfold f3
  rw [sm_B_imp]
  simp only [sm_B_and]
  rintro ⟨p0, p1⟩
  try simp only [smA, smW] at *
  have n1 := fn0_nn (ρ := ρ) J0
  obtain ⟨a1, ea1, qa1⟩ := cs_i64 ((E.I ρ (.fn 0 J0)) - (1))
  try simp only [ea1] at *
  omega
noncomputable def f4 : E := (.imp J8 (.fn 111 (.pr J2 (.pr J2 (.fn 7 (.pr (.fn 7 (.pr (.fn 0 J0) (.int 1))) J1))))))
theorem fact4 (ρ : Env) : E.B ρ f4 = true := by
  unfold f4
  rw [sm_B_imp]
  simp only [sm_B_and]
  rintro ⟨p0, p1⟩
  have g0 : E.I ρ (.fn 7 (.pr (.fn 7 (.pr (.fn 0 J0) (.int 1))) J1)) ≤ (0) := by
    try simp only [smA, smW] at *
    have n1 := fn0_nn (ρ := ρ) J0
    obtain ⟨a1, ea1, qa1⟩ := cs_i64 ((E.I ρ (.fn 0 J0)) - (1))
    try simp only [ea1] at *
    omega
  exact t111_self (by (try simp only [sm_I_int]); omega)
noncomputable def f5 : E := (.imp J8 (.cmp .eql J11 (.fn 6 (.pr J11 (.fn 7 (.pr (.fn 7 (.pr (.fn 0 J0) (.int 1))) J1))))))
theorem fact5 (ρ : Env) : E.B ρ f5 = true := by
  unfold f5
  rw [sm_B_imp]
  simp only [sm_B_and]
  rintro ⟨p0, p1⟩
  try simp only [smA, smW] at *
  have n1 := fn0_nn (ρ := ρ) J0
  obtain ⟨a2, ea2, qa2⟩ := cs_i64 ((E.I ρ (.fn 0 J0)) - (1))
  try simp only [ea2] at *
  omega
noncomputable def f6 : E := (.imp J8 (.fn 120 (.pr J0 (.pr J0 (.pr J1 (.pr J2 (.pr (.int 0) (.fn 7 (.pr (.fn 7 (.pr (.fn 0 J0) (.int 1))) J1)))))))))
theorem fact6 (ρ : Env) : E.B ρ f6 = true := by
  unfold f6
  rw [sm_B_imp]
  simp only [sm_B_and]
  rintro ⟨p0, p1⟩
  obtain ⟨g0, g1⟩ : E.I ρ J1 = E.I ρ (.fn 7 (.pr (.fn 0 J0) (.int 1))) ∧ E.I ρ (.fn 7 (.pr (.fn 7 (.pr (.fn 0 J0) (.int 1))) J1)) = (0) := by
    try simp only [smA, smW] at *
    have n1 := fn0_nn (ρ := ρ) J0
    obtain ⟨a1, ea1, qa1⟩ := cs_i64 ((E.I ρ (.fn 0 J0)) - (1))
    try simp only [ea1] at *
    omega
  exact t120_start g0 g1
noncomputable def f7 : E := (.imp (.and J14 (.fn 131 J2)) (.fn 131 J12))
theorem fact7 (ρ : Env) : E.B ρ f7 = true := by
  unfold f7
  rw [sm_B_imp]
  simp only [sm_B_and]
  rintro ⟨p0, p1⟩
  exact (t131_drop p0 p1)
noncomputable def f8 : E := (.imp (.and J15 (.and J22 J27)) (.fn 101 (.pr J16 (.pr J0 (.pr J2 (.int 0))))))
theorem fact8 (ρ : Env) : E.B ρ f8 = true := by
  unfold f8
  rw [sm_B_imp]
  simp only [sm_B_and]
  rintro ⟨p0, p1, p2, p3, p4⟩
  have g0 : E.I ρ J13 ≤ (0) := by
    have hl3 := t111_len p3
    try simp only [smA, smW] at *
    have n4 := fn0_nn (ρ := ρ) J0
    omega
  exact t120_end p1 (by (try simp only [sm_I_int]); omega)
noncomputable def f9 : E := (.imp (.and J14 (.and J28 (.and J10 J33))) (.not (.cmp .lss (.fn 0 J12) (.int 1))))
theorem fact9 (ρ : Env) : E.B ρ f9 = true := by
  unfold f9
  rw [sm_B_imp]
  simp only [sm_B_and]
  rintro ⟨p0, p1, p2, p3, p4, p5, p6⟩
  have hl0 := t111_len p0
  try simp only [smA, smW] at *
  have n2 := fn0_nn (ρ := ρ) J0
  have n3 := fn0_nn (ρ := ρ) J2
  have n4 := fn0_nn (ρ := ρ) J12
  omega
noncomputable def f10 : E := (.imp (.and J15 J27) (.fn 111 (.pr J12 (.pr J2 (.fn 7 (.pr (.fn 0 J0) (.int 1)))))))
theorem fact10 (ρ : Env) : E.B ρ f10 = true := by
  unfold f10
  rw [sm_B_imp]
  simp only [sm_B_and]
  rintro ⟨p0, p1, p2, p3⟩
  have g0 : E.I ρ (.fn 7 (.pr (.fn 0 J0) (.int 1))) = E.I ρ (.fn 7 (.pr (.fn 7 (.pr (.fn 0 J0) (.int 1))) J13)) := by
    have hl2 := t111_len p2
    try simp only [smA, smW] at *
    have n4 := fn0_nn (ρ := ρ) J0
    omega
  exact t111_eq p2 g0
noncomputable def f11 : E := (.imp (.and J14 J33) (.not (.cmp .lss (.int 300) (.fn 0 J12))))
theorem fact11 (ρ : Env) : E.B ρ f11 = true := by
  unfold f11
  rw [sm_B_imp]
  simp only [sm_B_and]
  rintro ⟨p0, p1, p2, p3, p4⟩
  have hl0 := t111_len p0
  try simp only [smA, smW] at *
  have n1 := fn0_nn (ρ := ρ) J0
  have n3 := fn0_nn (ρ := ρ) J2
  have n4 := fn0_nn (ρ := ρ) J12
  omega
noncomputable def f12 : E := (.imp (.and J14 (.and J15 (.and J23 J25))) (.cmp .eql (.var 11) (.fn 6 (.pr J11 (.fn 7 (.pr (.fn 0 J0) (.int 1)))))))
theorem fact12 (ρ : Env) : E.B ρ f12 = true := by
  unfold f12
  rw [sm_B_imp]
  simp only [sm_B_and]
  rintro ⟨p0, p1, p2, p3⟩
  have hl0 := t111_len p0
  try simp only [smA, smW] at *
  have n4 := fn0_nn (ρ := ρ) J0
  omega
noncomputable def f13 : E := (.imp (.and J14 (.and J23 (.and J28 J35))) (.not (.cmp .lss (.var 11) (.int 0))))
theorem fact13 (ρ : Env) : E.B ρ f13 = true := by
  unfold f13
  rw [sm_B_imp]
  simp only [sm_B_and]
  rintro ⟨p0, p1, p2, p3⟩
  have hl0 := t111_len p0
  try simp only [smA, smW] at *
  have n3 := fn0_nn (ρ := ρ) J0
  omega
noncomputable def f14 : E := (.imp (.and J14 (.and J10 (.and J29 (.and J36 (.and J23 J38))))) (.not (.cmp .lss (.int 300) (.var 11))))
theorem fact14 (ρ : Env) : E.B ρ f14 = true := by
  unfold f14
  rw [sm_B_imp]
  simp only [sm_B_and]
  rintro ⟨p0, p1, p2, p3, p4, p5⟩
  have hl0 := t111_len p0
  try simp only [smA, smW] at *
  have n1 := fn0_nn (ρ := ρ) J2
  have n2 := fn0_nn (ρ := ρ) J0
  have n4 := fn0_nn (ρ := ρ) J16
  omega
noncomputable def f15 : E := (.imp (.and J14 (.and J10 (.and J29 J42))) (.not (.cmp .lss J43 (.int 1))))
theorem fact15 (ρ : Env) : E.B ρ f15 = true := by
  unfold f15
  rw [sm_B_imp]
  simp only [sm_B_and]
  rintro ⟨p0, p1, p2, p3, p4, p5, p6, p7⟩
  have hl0 := t111_len p0
  try simp only [smA, smW] at *
  have n1 := fn0_nn (ρ := ρ) J2
  have n2 := fn0_nn (ρ := ρ) J0
  have n4 := fn0_nn (ρ := ρ) J16
  obtain ⟨a6, ea6, qa6⟩ := cs_i64 ((E.I ρ J13) + (1))
  try simp only [ea6] at *
  omega
noncomputable def f16 : E := (.imp (.and J14 (.and J10 (.and J29 (.and J36 (.and J23 (.and J28 (.and J5 (.and J7 J39)))))))) (.not (.cmp .lss (.int 4294967296) J43)))
theorem fact16 (ρ : Env) : E.B ρ f16 = true := by
  unfold f16
  rw [sm_B_imp]
  simp only [sm_B_and]
  rintro ⟨p0, p1, p2, p3, p4, p5, p6, p7, p8, p9⟩
  have hl0 := t111_len p0
  try simp only [smA, smW] at *
  have n1 := fn0_nn (ρ := ρ) J2
  have n2 := fn0_nn (ρ := ρ) J0
  have n4 := fn0_nn (ρ := ρ) J16
  obtain ⟨a6, ea6, qa6⟩ := cs_i64 ((E.I ρ J13) + (1))
  try simp only [ea6] at *
  omega
noncomputable def f17 : E := (.imp J52 (.not (.cmp .lss J54 (.int 0))))
theorem fact17 (ρ : Env) : E.B ρ f17 = true := by
  unfold f17
  rw [sm_B_imp]
  simp only [sm_B_and]
  rintro ⟨p0, p1, p2, p3, p4, p5, p6, p7, p8, p9⟩
  have hl0 := t111_len p0
  have hl4 := t111_len p4
  have hn0 := t131_nth (t131_drop p0 p2) (.int 0)
  try simp only [smA, smW] at *
  have n1 := fn0_nn (ρ := ρ) J2
  have n2 := fn0_nn (ρ := ρ) J0
  have n4 := fn0_nn (ρ := ρ) J16
  obtain ⟨a7, ea7, qa7⟩ := cs_i64 ((E.I ρ J13) + (1))
  try simp only [ea7] at *
  obtain ⟨a8, ea8, qa8⟩ := cs_u64 a7
  try simp only [ea8] at *
  obtain ⟨a9, ea9, qa9⟩ := cs_rem (E.I ρ (.fn 1 (.pr J12 (.int 0)))) a8
  try simp only [ea9] at *
  obtain ⟨a10, ea10, qa10⟩ := cs_i64 a9
  try simp only [ea10] at *
  omega
noncomputable def f18 : E := (.imp J52 (.cmp .lss J54 (.fn 0 J0)))
theorem fact18 (ρ : Env) : E.B ρ f18 = true := by
  unfold f18
  rw [sm_B_imp]
  simp only [sm_B_and]
  rintro ⟨p0, p1, p2, p3, p4, p5, p6, p7, p8, p9⟩
  have hl0 := t111_len p0
  have hl4 := t111_len p4
  have hn0 := t131_nth (t131_drop p0 p2) (.int 0)
  try simp only [smA, smW] at *
  have n1 := fn0_nn (ρ := ρ) J2
  have n2 := fn0_nn (ρ := ρ) J0
  have n4 := fn0_nn (ρ := ρ) J16
  obtain ⟨a7, ea7, qa7⟩ := cs_i64 ((E.I ρ J13) + (1))
  try simp only [ea7] at *
  obtain ⟨a8, ea8, qa8⟩ := cs_u64 a7
  try simp only [ea8] at *
  obtain ⟨a9, ea9, qa9⟩ := cs_rem (E.I ρ (.fn 1 (.pr J12 (.int 0)))) a8
  try simp only [ea9] at *
  obtain ⟨a10, ea10, qa10⟩ := cs_i64 a9
  try simp only [ea10] at *
  omega
noncomputable def f19 : E := (.imp J56 (.not (.cmp .lss J57 (.int 0))))
theorem fact19 (ρ : Env) : E.B ρ f19 = true := by
  unfold f19
  rw [sm_B_imp]
  simp only [sm_B_and]
  rintro ⟨p0, p1, p2, p3, p4, p5, p6, p7, p8⟩
  have hl0 := t111_len p0
  have hl3 := t111_len p3
  try simp only [smA, smW] at *
  have n1 := fn0_nn (ρ := ρ) J2
  have n2 := fn0_nn (ρ := ρ) J0
  have n4 := fn0_nn (ρ := ρ) J16
  obtain ⟨a6, ea6, qa6⟩ := cs_i64 ((E.I ρ J13) - (1))
  try simp only [ea6] at *
  omega
noncomputable def f20 : E := (.imp J56 (.cmp .lss J57 (.fn 0 J0)))
theorem fact20 (ρ : Env) : E.B ρ f20 = true := by
  unfold f20
  rw [sm_B_imp]
  simp only [sm_B_and]
  rintro ⟨p0, p1, p2, p3, p4, p5, p6, p7, p8⟩
  have hl0 := t111_len p0
  have hl3 := t111_len p3
  try simp only [smA, smW] at *
  have n1 := fn0_nn (ρ := ρ) J2
  have n2 := fn0_nn (ρ := ρ) J0
  have n4 := fn0_nn (ρ := ρ) J16
  obtain ⟨a6, ea6, qa6⟩ := cs_i64 ((E.I ρ J13) - (1))
  try simp only [ea6] at *
  omega
noncomputable def f21 : E := (.imp (.and J10 (.and J29 (.and J47 (.and J36 (.and J23 (.and J14 J40)))))) (.fn 111 (.pr J44 (.pr J2 (.fn 7 (.pr (.fn 7 (.pr (.fn 0 J0) (.int 1))) J57))))))
theorem fact21 (ρ : Env) : E.B ρ f21 = true := by
  unfold f21
  rw [sm_B_imp]
  simp only [sm_B_and]
  rintro ⟨p0, p1, p2, p3, p4, p5, p6, p7, p8⟩
  obtain ⟨g0, g1, g2⟩ : (0) ≤ (1) ∧ (0) ≤ E.I ρ (.fn 7 (.pr (.fn 7 (.pr (.fn 0 J0) (.int 1))) J13)) ∧ E.I ρ (.fn 7 (.pr (.fn 7 (.pr (.fn 0 J0) (.int 1))) J57)) = E.I ρ (.fn 6 (.pr (.fn 7 (.pr (.fn 7 (.pr (.fn 0 J0) (.int 1))) J13)) (.int 1))) := by
    have hl2 := t111_len p2
    have hl5 := t111_len p5
    try simp only [smA, smW] at *
    have n1 := fn0_nn (ρ := ρ) J2
    have n2 := fn0_nn (ρ := ρ) J0
    have n4 := fn0_nn (ρ := ρ) J16
    obtain ⟨a6, ea6, qa6⟩ := cs_i64 ((E.I ρ J13) - (1))
    try simp only [ea6] at *
    omega
  exact t111_trans p2 p5 (by (try simp only [sm_I_int]); omega) (by (try simp only [sm_I_int]); omega) g2
noncomputable def f22 : E := (.imp (.and J14 (.and J10 (.and J29 (.and (.cmp .eql (.var 13) (.fn 6 (.pr (.var 11) (.int 1)))) J48)))) (.cmp .eql (.var 13) (.fn 6 (.pr J11 (.fn 7 (.pr (.fn 7 (.pr (.fn 0 J0) (.int 1))) J57))))))
theorem fact22 (ρ : Env) : E.B ρ f22 = true := by
  unfold f22
  rw [sm_B_imp]
  simp only [sm_B_and]
  rintro ⟨p0, p1, p2, p3, p4, p5, p6, p7, p8, p9⟩
  have hl0 := t111_len p0
  have hl4 := t111_len p4
  try simp only [smA, smW] at *
  have n1 := fn0_nn (ρ := ρ) J2
  have n2 := fn0_nn (ρ := ρ) J0
  have n6 := fn0_nn (ρ := ρ) J16
  obtain ⟨a7, ea7, qa7⟩ := cs_i64 ((E.I ρ J13) - (1))
  try simp only [ea7] at *
  omega
noncomputable def f23 : E := (.imp (.and J10 (.and J29 (.and J47 (.and J22 (.and J36 (.and J23 (.and J14 (.and J28 (.and J38 (.and J35 (.fn 131 J2))))))))))) (.fn 120 (.pr (.fn 2 (.pr (.fn 2 (.pr J16 (.pr J13 (.fn 1 (.pr J16 J54))))) (.pr J54 (.fn 1 (.pr J16 J13))))) (.pr J0 (.pr J57 (.pr J2 (.pr (.int 0) (.fn 7 (.pr (.fn 7 (.pr (.fn 0 J0) (.int 1))) J57)))))))))
theorem fact23 (ρ : Env) : E.B ρ f23 = true := by
  unfold f23
  rw [sm_B_imp]
  simp only [sm_B_and]
  rintro ⟨p0, p1, p2, p3, p4, p5, p6, p7, p8, p9, p10⟩
  obtain ⟨g0, g1, g2, g3, g4, g5, k0, k1, k2, h1, h2, h3⟩ : (0) < E.I ρ J13 ∧ (0) ≤ E.I ρ (.fn 7 (.pr (.fn 7 (.pr (.fn 0 J0) (.int 1))) J13)) ∧ E.I ρ (.fn 7 (.pr (.fn 7 (.pr (.fn 0 J0) (.int 1))) J13)) < E.I ρ (.fn 0 J2) ∧ E.I ρ J57 = E.I ρ (.fn 7 (.pr J13 (.int 1))) ∧ E.I ρ (.fn 7 (.pr (.fn 7 (.pr (.fn 0 J0) (.int 1))) J57)) = E.I ρ (.fn 6 (.pr (.fn 7 (.pr (.fn 7 (.pr (.fn 0 J0) (.int 1))) J13)) (.int 1))) ∧ E.I ρ J43 = E.I ρ (.fn 6 (.pr J13 (.int 1))) ∧ (0) ≤ E.I ρ (.fn 1 (.pr J12 (.int 0))) ∧ (0) < E.I ρ (.fn 6 (.pr J13 (.int 1))) ∧ E.I ρ (.fn 6 (.pr J13 (.int 1))) < (9223372036854775808) ∧ (0) ≤ (0) ∧ (0) ≤ E.I ρ (.fn 7 (.pr (.fn 7 (.pr (.fn 0 J0) (.int 1))) J13)) ∧ E.I ρ (.fn 7 (.pr (.fn 7 (.pr (.fn 0 J0) (.int 1))) J13)) = E.I ρ (.fn 6 (.pr (.fn 7 (.pr (.fn 7 (.pr (.fn 0 J0) (.int 1))) J13)) (.int 0))) := by
    have hl2 := t111_len p2
    have hl6 := t111_len p6
    have hn0 := t131_nth (t131_drop p6 p10) (.int 0)
    try simp only [smA, smW] at *
    have n1 := fn0_nn (ρ := ρ) J2
    have n2 := fn0_nn (ρ := ρ) J0
    have n4 := fn0_nn (ρ := ρ) J16
    obtain ⟨a7, ea7, qa7⟩ := cs_i64 ((E.I ρ J13) - (1))
    try simp only [ea7] at *
    obtain ⟨a8, ea8, qa8⟩ := cs_i64 ((E.I ρ J13) + (1))
    try simp only [ea8] at *
    omega
  have g6 : E.I ρ (.fn 1 (.pr J12 (.int 0))) = E.I ρ (.fn 1 (.pr J2 (.fn 7 (.pr (.fn 7 (.pr (.fn 0 J0) (.int 1))) J13)))) := nth_drop p6 (by (try simp only [sm_I_int]); omega) (by (try simp only [sm_I_int]); omega) h3
  exact t120_step p3 (by (try simp only [sm_I_int]); omega) (by (try simp only [sm_I_int]); omega) g2 (by rw [choose_val (b := (.fn 6 (.pr J13 (.int 1)))) (by (try simp only [sm_I_int]); omega) (by (try simp only [sm_I_int]); omega) (by (try simp only [sm_I_int]); omega) g5, g6]; rfl) g3 g4
noncomputable def f24 : E := (.imp (.and J14 (.and J29 (.and J47 J23))) (.cmp .lss J57 J13))
theorem fact24 (ρ : Env) : E.B ρ f24 = true := by
  unfold f24
  rw [sm_B_imp]
  simp only [sm_B_and]
  rintro ⟨p0, p1, p2, p3⟩
  have hl0 := t111_len p0
  have hl2 := t111_len p2
  try simp only [smA, smW] at *
  have n4 := fn0_nn (ρ := ρ) J0
  obtain ⟨a4, ea4, qa4⟩ := cs_i64 ((E.I ρ J13) - (1))
  try simp only [ea4] at *
  omega
noncomputable def facts : List E := [f0, f1, f2, f3, f4, f5, f6, f7, f8, f9, f10, f11, f12, f13, f14, f15, f16, f17, f18, f19, f20, f21, f22, f23, f24]
theorem facts_ok : ∀ e ∈ facts, ∀ ρ : Env, E.B ρ e = true := (all_cons fact0 (all_cons fact1 (all_cons fact2 (all_cons fact3 (all_cons fact4 (all_cons fact5 (all_cons fact6 (all_cons fact7 (all_cons fact8 (all_cons fact9 (all_cons fact10 (all_cons fact11 (all_cons fact12 (all_cons fact13 (all_cons fact14 (all_cons fact15 (all_cons fact16 (all_cons fact17 (all_cons fact18 (all_cons fact19 (all_cons fact20 (all_cons fact21 (all_cons fact22 (all_cons fact23 (all_cons fact24 all_nil)))))))))))))))))))))))))
end p7
set_option maxRecDepth 100000 in
theorem spec7_0 : NatOk Try.prog (specNat (spQ)) :=
  spec_of_check good (facts := p7.facts) p7.facts_ok (anns := annQ) (plainAnns_ok _ (by kernel_rfl)) (nats := natl8) natl8_ok (n := 3000) (by kernel_rfl)
noncomputable def natl9 : List Nat1 := specNat (spQ) :: natl8
theorem natl9_ok : ∀ x ∈ natl9, NatOk Try.prog x := by
  intro x hx
  rcases List.mem_cons.1 hx with rfl | hx
  · exact spec7_0
  exact natl8_ok x hx

end Go.Proofs.Ytmcifbikfjmmfaa.drawsPlays
