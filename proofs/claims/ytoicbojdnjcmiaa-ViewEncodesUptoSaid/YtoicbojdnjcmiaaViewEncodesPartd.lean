/-
  ViewEncodes: contracts of functions, part 4.
-/
import Derived.Test.YtoicbojdnjcmiaaRows
import Derived.Test.YtoicbojdnjcmiaaTheory
import Derived.WalkKit
import Derived.ProofKit
import Derived.OpenShut
import Derived.ChangeOld
import Derived.Below
import Derived.KernelRfl
import Derived.Lib.SmallJoins
import Derived.Test.YtoicbojdnjcmiaaViewEncodesPartc
namespace Go.Proofs.Ytoicbojdnjcmiaa.viewEncodes
open Go.ChangeShapes Go.WideShapes Go.ChangeAt Go.RowKit
open Go.SX
set_option linter.unusedVariables false
set_option linter.unusedSimpArgs false
set_option maxRecDepth 100000
noncomputable section
abbrev Y0 : E := .var 0
abbrev Y1 : E := .cmp .lss (.int 1000) (.fn 9 (.pr Y0 (.int 12)))
abbrev Y2 : E := .not Y1
abbrev Y3 : E := .var 11
abbrev Y4 : E := .cmp .lss Y3 (.fn 9 (.pr Y0 (.int 12)))
abbrev Y5 : E := .var 9
abbrev Y6 : E := .cmp .eql Y5 (.fn 6 (.pr (.int 1) (.fn 8 (.pr (.int 12) Y3))))
abbrev Y7 : E := .not (.cmp .lss Y3 (.int 0))
abbrev Y8 : E := .and Y7 Y2
abbrev Y9 : E := .and Y6 Y8
abbrev Y10 : E := .and Y4 Y9
abbrev Y11 : E := .cmp .lss (.fn 9 (.pr Y0 (.int 12))) Y3
abbrev Y12 : E := .not Y11
abbrev Y13 : E := .var 8
abbrev Y14 : E := .pr Y13 (.pr (.int 1) (.pr Y0 Y3))
abbrev Y15 : E := .fn 109 Y14
abbrev Y16 : E := .ar .add .i64 Y3 (.int 1)
abbrev Y17 : E := .and Y4 Y8
abbrev Y18 : E := .cmp .lss (.int 5000) (.fn 114 (.pr Y0 (.fn 9 (.pr Y0 (.int 5)))))
abbrev Y19 : E := .not Y18
abbrev Y20 : E := .cmp .eql Y5 (.fn 6 (.pr (.int 1) (.fn 6 (.pr (.fn 8 (.pr (.int 5) Y3)) (.fn 8 (.pr (.int 2) (.fn 114 (.pr Y0 Y3))))))))
abbrev Y21 : E := .cmp .lss (.fn 9 (.pr Y0 (.int 5))) Y3
abbrev Y22 : E := .not Y21
abbrev Y23 : E := .pr Y13 (.pr (.int 2) (.pr Y0 Y3))
abbrev Y24 : E := .fn 109 Y23
abbrev Y25 : E := .cmp .lss Y3 (.fn 9 (.pr Y0 (.int 5)))
abbrev Y26 : E := .cmp .lss (.int 1000) (.fn 9 (.pr Y0 (.int 5)))
abbrev Y27 : E := .not Y26
abbrev Y28 : E := .fn 118 (.pr (.int 2) Y0)
abbrev Y29 : E := .and Y27 Y28
abbrev Y30 : E := .and Y19 Y29
abbrev Y31 : E := .and Y7 Y30
abbrev Y32 : E := .and Y25 Y31
abbrev Y33 : E := .var 25
abbrev Y34 : E := .var 27
abbrev Y35 : E := .cmp .eql Y33 (.fn 6 (.pr (.fn 6 (.pr (.int 1) (.fn 6 (.pr (.fn 8 (.pr (.int 5) Y3)) (.fn 8 (.pr (.int 2) (.fn 114 (.pr Y0 Y3)))))))) (.fn 6 (.pr (.int 5) (.fn 8 (.pr (.int 2) Y34))))))
abbrev Y36 : E := .var 24
abbrev Y37 : E := .cmp .eql Y33 (.fn 0 Y36)
abbrev Y38 : E := .and Y35 Y37
abbrev Y39 : E := .cmp .lss Y34 (.fn 9 (.pr (.fn 1 (.pr Y0 (.fn 6 (.pr (.fn 8 (.pr Y3 (.int 5))) (.int 4))))) (.int 2)))
abbrev Y40 : E := .cmp .lss (.fn 9 (.pr (.fn 1 (.pr Y0 (.fn 6 (.pr (.fn 8 (.pr Y3 (.int 5))) (.int 4))))) (.int 2))) Y34
abbrev Y41 : E := .not Y40
abbrev Y42 : E := .fn 113 (.pr Y36 (.pr Y0 (.pr Y3 Y34)))
abbrev Y43 : E := .and Y7 Y27
abbrev Y44 : E := .and Y25 Y43
abbrev Y45 : E := .and Y28 Y44
abbrev Y46 : E := .cmp .lss Y34 (.int 0)
abbrev Y47 : E := .not Y46
abbrev Y48 : E := .and Y19 Y28
abbrev Y49 : E := .ar .add .i64 Y34 (.int 1)
abbrev Y50 : E := .and Y19 (.and Y28 (.and Y39 (.and Y47 (.and Y25 Y7))))
abbrev Y51 : E := .fn 119 Y0
abbrev Y52 : E := .fn 112 Y0
abbrev Y53 : E := .var 3
abbrev Y54 : E := .cmp .eql Y53 (.fn 6 (.pr (.int 1) (.fn 8 (.pr (.int 12) (.fn 9 (.pr (.fn 1 (.pr Y0 (.int 8))) (.int 12)))))))
abbrev Y55 : E := .var 7
abbrev Y56 : E := .cmp .eql Y55 (.fn 6 (.pr (.int 1) (.fn 8 (.pr (.int 12) (.fn 9 (.pr (.fn 1 (.pr Y0 (.int 9))) (.int 12)))))))
abbrev Y57 : E := .and Y52 (.and Y54 Y56)
abbrev Y58 : E := .var 16
abbrev Y59 : E := .cmp .eql Y58 (.fn 6 (.pr (.int 1) (.fn 8 (.pr (.int 12) (.fn 9 (.pr (.fn 1 (.pr Y0 (.int 22))) (.int 12)))))))
abbrev Y60 : E := .and Y52 (.and Y54 (.and Y56 Y59))
abbrev Y61 : E := .var 20
abbrev Y62 : E := .cmp .eql Y61 (.fn 6 (.pr (.int 1) (.fn 8 (.pr (.int 12) (.fn 9 (.pr (.fn 1 (.pr Y0 (.int 23))) (.int 12)))))))
abbrev Y63 : E := .and Y52 (.and Y54 (.and Y56 (.and Y59 Y62)))
abbrev Y64 : E := .var 28
abbrev Y65 : E := .cmp .eql Y64 (.fn 6 (.pr (.int 1) (.fn 8 (.pr (.int 12) (.fn 9 (.pr (.fn 1 (.pr Y0 (.int 29))) (.int 12)))))))
abbrev Y66 : E := .cmp .eql Y64 (.fn 0 Y34)
abbrev Y67 : E := .var 32
abbrev Y68 : E := .cmp .eql Y67 (.fn 6 (.pr (.int 1) (.fn 6 (.pr (.fn 8 (.pr (.int 5) (.fn 9 (.pr (.fn 1 (.pr Y0 (.int 30))) (.int 5))))) (.fn 8 (.pr (.int 2) (.fn 114 (.pr (.fn 1 (.pr Y0 (.int 30))) (.fn 9 (.pr (.fn 1 (.pr Y0 (.int 30))) (.int 5)))))))))))
abbrev Y69 : E := .cmp .eql Y67 (.fn 0 (.var 31))
abbrev Y70 : E := .var 36
abbrev Y71 : E := .cmp .eql Y70 (.fn 6 (.pr (.int 1) (.fn 6 (.pr (.fn 8 (.pr (.int 5) (.fn 9 (.pr (.fn 1 (.pr Y0 (.int 31))) (.int 5))))) (.fn 8 (.pr (.int 2) (.fn 114 (.pr (.fn 1 (.pr Y0 (.int 31))) (.fn 9 (.pr (.fn 1 (.pr Y0 (.int 31))) (.int 5)))))))))))
abbrev Y72 : E := .var 35
abbrev Y73 : E := .cmp .eql Y70 (.fn 0 Y72)
abbrev Y74 : E := .var 40
abbrev Y75 : E := .cmp .eql Y74 (.fn 6 (.pr (.int 1) (.fn 0 (.fn 1 (.pr Y0 (.int 32))))))
abbrev Y76 : E := .cmp .eql Y74 (.fn 0 (.var 39))
abbrev Y77 : E := .and Y76 Y52
abbrev Y78 : E := .and Y75 Y77
abbrev Y79 : E := .and Y71 Y78
abbrev Y80 : E := .and Y68 Y79
abbrev Y81 : E := .and Y65 Y80
abbrev Y82 : E := .and Y62 Y81
abbrev Y83 : E := .and Y59 Y82
abbrev Y84 : E := .and Y56 Y83
abbrev Y85 : E := .and Y54 Y84
abbrev Y86 : E := .and Y73 Y78
abbrev Y87 : E := .and Y71 Y86
abbrev Y88 : E := .and Y68 Y87
abbrev Y89 : E := .and Y66 Y88
abbrev Y90 : E := .and Y65 Y89
abbrev Y91 : E := .and Y62 Y90
abbrev Y92 : E := .and Y59 Y91
abbrev Y93 : E := .and Y56 Y92
abbrev Y94 : E := .and Y54 Y93
abbrev Y95 : E := .var 65
abbrev Y96 : E := .cmp .eql Y95 (.fn 0 (.var 64))
abbrev Y97 : E := .var 67
abbrev Y98 : E := .cmp .lss Y97 (.fn 9 (.pr (.fn 1 (.pr Y0 (.int 33))) (.int 2)))
abbrev Y99 : E := .cmp .lss (.fn 6 (.pr (.int 7000) (.fn 8 (.pr (.int 2) Y97)))) Y95
abbrev Y100 : E := .not Y99
abbrev Y101 : E := .cmp .lss Y97 (.int 0)
abbrev Y102 : E := .not Y101
abbrev Y103 : E := .and Y96 Y102
abbrev Y104 : E := .and Y100 Y103
abbrev Y105 : E := .and Y98 Y104
abbrev Y106 : E := .and Y52 Y105
abbrev Y107 : E := .cmp .lss (.fn 9 (.pr (.fn 1 (.pr Y0 (.int 33))) (.int 2))) Y97
abbrev Y108 : E := .not Y107
abbrev Y109 : E := .and Y96 Y108
abbrev Y110 : E := .and Y100 Y109
abbrev Y111 : E := .and (.not Y98) Y110
abbrev Y112 : E := .and Y52 Y111
abbrev Y113 : E := .pr (.var 64) (.pr Y0 (.pr (.int 33) Y97))
abbrev Y114 : E := .fn 110 Y113
abbrev Y115 : E := .and Y114 (.and Y52 Y51)
abbrev Y116 : E := .ar .add .i64 Y97 (.int 1)
abbrev Y117 : E := .and Y52 (.and Y98 Y102)
abbrev Y118 : E := .var 97
abbrev Y119 : E := .cmp .eql Y118 (.fn 0 (.var 96))
abbrev Y120 : E := .var 99
abbrev Y121 : E := .cmp .lss Y120 (.fn 9 (.pr (.fn 1 (.pr Y0 (.int 42))) (.int 3)))
abbrev Y122 : E := .cmp .lss (.fn 9 (.pr (.fn 1 (.pr Y0 (.int 42))) (.int 3))) Y120
abbrev Y123 : E := .not Y122
abbrev Y124 : E := .pr (.var 96) (.pr Y0 (.pr (.int 42) Y120))
abbrev Y125 : E := .fn 110 Y124
abbrev Y126 : E := .cmp .lss (.fn 6 (.pr (.int 8000) (.fn 8 (.pr (.int 3) Y120)))) Y118
abbrev Y127 : E := .not Y126
abbrev Y128 : E := .cmp .lss Y120 (.int 0)
abbrev Y129 : E := .not Y128
abbrev Y130 : E := .and Y119 Y129
abbrev Y131 : E := .and Y127 Y130
abbrev Y132 : E := .and Y121 Y131
abbrev Y133 : E := .and Y52 Y132
abbrev Y134 : E := .ar .add .i64 Y120 (.int 1)
abbrev Y135 : E := .and Y52 (.and Y121 Y129)
namespace p9
def f0 : E := (.imp Y0 (.cmp .eql (.fn 116 Y0) (.int 1)))
theorem fact0 (ρ : Env) : E.B ρ f0 = true := by
  unfold f0
  rw [sm_B_imp]
  intro p0
  exact flag_I p0
def f1 : E := (.imp (.not Y0) (.cmp .eql (.fn 116 Y0) (.int 0)))
theorem fact1 (ρ : Env) : E.B ρ f1 = true := by
  unfold f1
  rw [sm_B_imp]
  intro p0
  exact flag_O (by have q := p0; rwa [sm_B_not] at q)
def facts : List E := [f0, f1]
theorem facts_ok : ∀ e ∈ facts, ∀ ρ : Env, E.B ρ e = true := (all_cons fact0 (all_cons fact1 all_nil))
end p9
set_option maxRecDepth 100000 in
theorem spec9_0 : NatOk Try.prog (specNat (spG)) :=
  spec_of_check good (facts := p9.facts) p9.facts_ok (anns := []) (plainAnns_ok _ (by kernel_rfl)) (nats := natl10) natl10_ok (n := 3000) (by kernel_rfl)
def natl11 : List Nat1 := specNat (spG) :: natl10
theorem natl11_ok : ∀ x ∈ natl11, NatOk Try.prog x := by
  intro x hx
  rcases List.mem_cons.1 hx with rfl | hx
  · exact spec9_0
  exact natl10_ok x hx

namespace p10
def f0 : E := (.imp Y2 (.fn 109 (.pr (.fn 23 (.pr (.fn 9 (.pr Y0 (.int 12))) (.fn 10 (.int 0)))) (.pr (.int 1) (.pr Y0 (.int 0))))))
theorem fact0 (ρ : Env) : E.B ρ f0 = true := by
  unfold f0
  rw [sm_B_imp]
  intro p0
  exact t109_head1
def f1 : E := (.imp Y2 (.cmp .eql (.fn 6 (.pr (.int 1) (.fn 8 (.pr (.int 12) (.int 0))))) (.int 1)))
theorem fact1 (ρ : Env) : E.B ρ f1 = true := by
  unfold f1
  rw [sm_B_imp]
  intro p0
  try simp only [smZ] at *
  omega
def f2 : E := (.imp Y10 (.not (.cmp .lss Y5 (.int 0))))
theorem fact2 (ρ : Env) : E.B ρ f2 = true := by
  unfold f2
  rw [sm_B_imp]
  simp only [sm_B_and]
  rintro ⟨p0, p1, p2, p3⟩
  try simp only [smZ] at *
  omega
def f3 : E := (.imp (.and (.not Y4) (.and Y12 Y15)) (.fn 109 (.pr Y13 (.pr (.int 1) (.pr Y0 (.fn 9 (.pr Y0 (.int 12))))))))
theorem fact3 (ρ : Env) : E.B ρ f3 = true := by
  unfold f3
  rw [sm_B_imp]
  simp only [sm_B_and]
  rintro ⟨p0, p1, p2⟩
  have g0 : E.I ρ (.fn 9 (.pr Y0 (.int 12))) = E.I ρ Y3 := by
    try simp only [smZ] at *
    omega
  exact t109_eq p2 g0
def f4 : E := (.imp (.and Y2 (.and Y4 (.and (.not (.cmp .lss (.var 10) Y5)) (.and Y6 Y7)))) (.not (.cmp .lss (.var 10) (.int 0))))
theorem fact4 (ρ : Env) : E.B ρ f4 = true := by
  unfold f4
  rw [sm_B_imp]
  simp only [sm_B_and]
  rintro ⟨p0, p1, p2, p3, p4⟩
  try simp only [smZ] at *
  omega
def f5 : E := (.imp (.and (.not Y4) (.and Y6 Y12)) (.cmp .eql Y5 (.fn 6 (.pr (.int 1) (.fn 8 (.pr (.int 12) (.fn 9 (.pr Y0 (.int 12)))))))))
theorem fact5 (ρ : Env) : E.B ρ f5 = true := by
  unfold f5
  rw [sm_B_imp]
  simp only [sm_B_and]
  rintro ⟨p0, p1, p2⟩
  try simp only [smZ] at *
  omega
def f6 : E := (.imp Y10 (.not (.cmp .lss (.int 2147483648) (.fn 6 (.pr Y5 (.int 12))))))
theorem fact6 (ρ : Env) : E.B ρ f6 = true := by
  unfold f6
  rw [sm_B_imp]
  simp only [sm_B_and]
  rintro ⟨p0, p1, p2, p3⟩
  try simp only [smZ] at *
  omega
def f7 : E := (.imp (.and Y4 (.and (.cmp .eql (.var 12) (.fn 116 (.fn 1 (.pr Y0 (.fn 6 (.pr (.fn 8 (.pr Y3 (.int 12))) (.int 9))))))) (.and (.cmp .eql (.var 13) (.fn 116 (.fn 1 (.pr Y0 (.fn 6 (.pr (.fn 8 (.pr Y3 (.int 12))) (.int 10))))))) (.and (.cmp .eql (.var 14) (.fn 116 (.fn 1 (.pr Y0 (.fn 6 (.pr (.fn 8 (.pr Y3 (.int 12))) (.int 11))))))) (.and Y7 (.and Y15 (.and Y2 (.fn 118 (.pr (.int 1) Y0))))))))) (.fn 109 (.pr (.fn 3 (.pr Y13 (.fn 23 (.pr (.fn 1 (.pr Y0 (.fn 6 (.pr (.fn 8 (.pr Y3 (.int 12))) (.int 0))))) (.fn 23 (.pr (.fn 1 (.pr Y0 (.fn 6 (.pr (.fn 8 (.pr Y3 (.int 12))) (.int 1))))) (.fn 23 (.pr (.fn 1 (.pr Y0 (.fn 6 (.pr (.fn 8 (.pr Y3 (.int 12))) (.int 2))))) (.fn 23 (.pr (.fn 1 (.pr Y0 (.fn 6 (.pr (.fn 8 (.pr Y3 (.int 12))) (.int 3))))) (.fn 23 (.pr (.fn 1 (.pr Y0 (.fn 6 (.pr (.fn 8 (.pr Y3 (.int 12))) (.int 4))))) (.fn 23 (.pr (.fn 1 (.pr Y0 (.fn 6 (.pr (.fn 8 (.pr Y3 (.int 12))) (.int 5))))) (.fn 23 (.pr (.fn 1 (.pr Y0 (.fn 6 (.pr (.fn 8 (.pr Y3 (.int 12))) (.int 6))))) (.fn 23 (.pr (.fn 1 (.pr Y0 (.fn 6 (.pr (.fn 8 (.pr Y3 (.int 12))) (.int 7))))) (.fn 23 (.pr (.fn 1 (.pr Y0 (.fn 6 (.pr (.fn 8 (.pr Y3 (.int 12))) (.int 8))))) (.fn 23 (.pr (.var 12) (.fn 23 (.pr (.var 13) (.fn 23 (.pr (.var 14) (.fn 10 (.int 0)))))))))))))))))))))))))))) (.pr (.int 1) (.pr Y0 Y16)))))
theorem fact7 (ρ : Env) : E.B ρ f7 = true := by
  unfold f7
  rw [sm_B_imp]
  simp only [sm_B_and]
  rintro ⟨p0, p1, p2, p3, p4, p5, p6, p7⟩
  have g0 : E.I ρ Y16 = E.I ρ (.fn 6 (.pr Y3 (.int 1))) := by
    try simp only [smZ] at *
    obtain ⟨a8, ea8, qa8⟩ := cs_i64 ((E.I ρ Y3) + (1))
    try simp only [ea8] at *
    omega
  exact t109_obj p7 p5 (by have q := p1; rwa [sm_B_eql] at q) (by have q := p2; rwa [sm_B_eql] at q) (by have q := p3; rwa [sm_B_eql] at q) (by simp only [smZ] at * <;> omega) (by simp only [smZ] at * <;> omega) g0
def f8 : E := (.imp Y17 (.not (.cmp .lss Y16 (.int 0))))
theorem fact8 (ρ : Env) : E.B ρ f8 = true := by
  unfold f8
  rw [sm_B_imp]
  simp only [sm_B_and]
  rintro ⟨p0, p1, p2⟩
  try simp only [smZ] at *
  obtain ⟨a2, ea2, qa2⟩ := cs_i64 ((E.I ρ Y3) + (1))
  try simp only [ea2] at *
  omega
def f9 : E := (.imp (.and Y4 Y7) (.not (.cmp .lss (.fn 9 (.pr Y0 (.int 12))) Y16)))
theorem fact9 (ρ : Env) : E.B ρ f9 = true := by
  unfold f9
  rw [sm_B_imp]
  simp only [sm_B_and]
  rintro ⟨p0, p1⟩
  try simp only [smZ] at *
  obtain ⟨a2, ea2, qa2⟩ := cs_i64 ((E.I ρ Y3) + (1))
  try simp only [ea2] at *
  omega
def f10 : E := (.imp (.and Y6 (.cmp .eql Y5 (.fn 0 Y13))) (.cmp .eql (.fn 6 (.pr Y5 (.int 12))) (.fn 6 (.pr (.fn 0 Y13) (.int 12)))))
theorem fact10 (ρ : Env) : E.B ρ f10 = true := by
  unfold f10
  rw [sm_B_imp]
  simp only [sm_B_and]
  rintro ⟨p0, p1⟩
  try simp only [smZ] at *
  omega
def f11 : E := (.imp Y10 (.cmp .eql (.fn 6 (.pr Y5 (.int 12))) (.fn 6 (.pr (.int 1) (.fn 8 (.pr (.int 12) Y16))))))
theorem fact11 (ρ : Env) : E.B ρ f11 = true := by
  unfold f11
  rw [sm_B_imp]
  simp only [sm_B_and]
  rintro ⟨p0, p1, p2, p3⟩
  try simp only [smZ] at *
  obtain ⟨a3, ea3, qa3⟩ := cs_i64 ((E.I ρ Y3) + (1))
  try simp only [ea3] at *
  omega
def f12 : E := (.imp Y17 (.cmp .lss (.fn 7 (.pr (.fn 9 (.pr Y0 (.int 12))) Y16)) (.fn 7 (.pr (.fn 9 (.pr Y0 (.int 12))) Y3))))
theorem fact12 (ρ : Env) : E.B ρ f12 = true := by
  unfold f12
  rw [sm_B_imp]
  simp only [sm_B_and]
  rintro ⟨p0, p1, p2⟩
  try simp only [smZ] at *
  obtain ⟨a2, ea2, qa2⟩ := cs_i64 ((E.I ρ Y3) + (1))
  try simp only [ea2] at *
  omega
def f13 : E := (.imp (.and Y4 Y7) (.not (.cmp .lss (.fn 7 (.pr (.fn 9 (.pr Y0 (.int 12))) Y16)) (.int 0))))
theorem fact13 (ρ : Env) : E.B ρ f13 = true := by
  unfold f13
  rw [sm_B_imp]
  simp only [sm_B_and]
  rintro ⟨p0, p1⟩
  try simp only [smZ] at *
  obtain ⟨a2, ea2, qa2⟩ := cs_i64 ((E.I ρ Y3) + (1))
  try simp only [ea2] at *
  omega
def facts : List E := [f0, f1, f2, f3, f4, f5, f6, f7, f8, f9, f10, f11, f12, f13]
theorem facts_ok : ∀ e ∈ facts, ∀ ρ : Env, E.B ρ e = true := (all_cons fact0 (all_cons fact1 (all_cons fact2 (all_cons fact3 (all_cons fact4 (all_cons fact5 (all_cons fact6 (all_cons fact7 (all_cons fact8 (all_cons fact9 (all_cons fact10 (all_cons fact11 (all_cons fact12 (all_cons fact13 all_nil))))))))))))))
end p10
set_option maxRecDepth 100000 in
theorem spec10_0 : NatOk Try.prog (specNat (spFO)) :=
  spec_of_check good (facts := p10.facts) p10.facts_ok (anns := annFO) (plainAnns_ok _ (by kernel_rfl)) (nats := natl11) natl11_ok (n := 3000) (by kernel_rfl)
def natl12 : List Nat1 := specNat (spFO) :: natl11
theorem natl12_ok : ∀ x ∈ natl12, NatOk Try.prog x := by
  intro x hx
  rcases List.mem_cons.1 hx with rfl | hx
  · exact spec10_0
  exact natl11_ok x hx

namespace p11
def f0 : E := (.imp Y19 (.fn 109 (.pr (.fn 23 (.pr (.fn 9 (.pr Y0 (.int 5))) (.fn 10 (.int 0)))) (.pr (.int 2) (.pr Y0 (.int 0))))))
theorem fact0 (ρ : Env) : E.B ρ f0 = true := by
  unfold f0
  rw [sm_B_imp]
  intro p0
  exact t109_head2
def f1 : E := (.imp Y19 (.cmp .eql (.fn 6 (.pr (.int 1) (.fn 6 (.pr (.fn 8 (.pr (.int 5) (.int 0))) (.fn 8 (.pr (.int 2) (.fn 114 (.pr Y0 (.int 0))))))))) (.int 1)))
theorem fact1 (ρ : Env) : E.B ρ f1 = true := by
  unfold f1
  rw [sm_B_imp]
  intro p0
  have hr0 := @rows_nn ρ Y0 (5)
  have ht0 := @tg_nn ρ Y0 (.fn 9 (.pr Y0 (.int 5)))
  have ht1 := @tg_nn ρ Y0 (.int 0)
  have hu1 := tg_zero (ρ := ρ) (l := Y0) (i := (.int 0)) (Int.le_refl 0)
  try simp only [smZ] at *
  omega
def f2 : E := (.imp (.and Y20 Y7) (.not (.cmp .lss Y5 (.int 0))))
theorem fact2 (ρ : Env) : E.B ρ f2 = true := by
  unfold f2
  rw [sm_B_imp]
  simp only [sm_B_and]
  rintro ⟨p0, p1⟩
  have ht0 := @tg_nn ρ Y0 Y3
  try simp only [smZ] at *
  omega
def f3 : E := (.imp (.and Y22 (.and Y24 (.not Y25))) (.fn 109 (.pr Y13 (.pr (.int 2) (.pr Y0 (.fn 9 (.pr Y0 (.int 5))))))))
theorem fact3 (ρ : Env) : E.B ρ f3 = true := by
  unfold f3
  rw [sm_B_imp]
  simp only [sm_B_and]
  rintro ⟨p0, p1, p2⟩
  have g0 : E.I ρ (.fn 9 (.pr Y0 (.int 5))) = E.I ρ Y3 := by
    try simp only [smZ] at *
    omega
  exact t109_eq p1 g0
def f4 : E := (.imp (.and (.not (.cmp .lss (.var 10) Y5)) (.and Y20 Y7)) (.not (.cmp .lss (.var 10) (.int 0))))
theorem fact4 (ρ : Env) : E.B ρ f4 = true := by
  unfold f4
  rw [sm_B_imp]
  simp only [sm_B_and]
  rintro ⟨p0, p1, p2⟩
  have ht0 := @tg_nn ρ Y0 Y3
  try simp only [smZ] at *
  omega
def f5 : E := (.imp (.and Y20 (.and Y22 (.not Y25))) (.cmp .eql Y5 (.fn 6 (.pr (.int 1) (.fn 6 (.pr (.fn 8 (.pr (.int 5) (.fn 9 (.pr Y0 (.int 5))))) (.fn 8 (.pr (.int 2) (.fn 114 (.pr Y0 (.fn 9 (.pr Y0 (.int 5)))))))))))))
theorem fact5 (ρ : Env) : E.B ρ f5 = true := by
  unfold f5
  rw [sm_B_imp]
  simp only [sm_B_and]
  rintro ⟨p0, p1, p2⟩
  have hr0 := @rows_nn ρ Y0 (5)
  have ht0 := @tg_nn ρ Y0 Y3
  have ht1 := @tg_nn ρ Y0 (.fn 9 (.pr Y0 (.int 5)))
  have hk10 := tg_mono (ρ := ρ) (l := Y0) (i := Y3) (j := (.fn 9 (.pr Y0 (.int 5)))) (by simp only [smZ] at * <;> omega)
  have hz20 := tg_mono (ρ := ρ) (l := Y0) (i := (.fn 9 (.pr Y0 (.int 5)))) (j := Y3) (by simp only [smZ] at * <;> omega)
  try simp only [smZ] at *
  omega
def f6 : E := (.imp (.and Y20 Y32) (.not (.cmp .lss (.int 2147483648) (.fn 6 (.pr Y5 (.int 5))))))
theorem fact6 (ρ : Env) : E.B ρ f6 = true := by
  unfold f6
  rw [sm_B_imp]
  simp only [sm_B_and]
  rintro ⟨p0, p1, p2, p3, p4, p5⟩
  have hr0 := @rows_nn ρ Y0 (5)
  have ht0 := @tg_nn ρ Y0 Y3
  have ht1 := @tg_nn ρ Y0 (.fn 9 (.pr Y0 (.int 5)))
  have hm1 := tg_le (i := Y3) p5 (by simp only [smZ] at * <;> omega) (by simp only [smZ] at * <;> omega)
  have hn1 := rows_nn (ρ := ρ) (l := (.fn 1 (.pr Y0 (.fn 6 (.pr (.fn 8 (.pr Y3 (.int 5))) (.int 4)))))) (w := 2)
  have ho1 := tg_nn (ρ := ρ) (l := Y0) (i := Y3)
  try simp only [smZ] at *
  omega
def f7 : E := (.imp (.and Y24 (.and Y25 (.and Y7 Y28))) (.fn 113 (.pr (.fn 3 (.pr Y13 (.fn 23 (.pr (.fn 1 (.pr Y0 (.fn 6 (.pr (.fn 8 (.pr Y3 (.int 5))) (.int 0))))) (.fn 23 (.pr (.fn 1 (.pr Y0 (.fn 6 (.pr (.fn 8 (.pr Y3 (.int 5))) (.int 1))))) (.fn 23 (.pr (.fn 1 (.pr Y0 (.fn 6 (.pr (.fn 8 (.pr Y3 (.int 5))) (.int 2))))) (.fn 23 (.pr (.fn 1 (.pr Y0 (.fn 6 (.pr (.fn 8 (.pr Y3 (.int 5))) (.int 3))))) (.fn 23 (.pr (.fn 9 (.pr (.fn 1 (.pr Y0 (.fn 6 (.pr (.fn 8 (.pr Y3 (.int 5))) (.int 4))))) (.int 2))) (.fn 10 (.int 0)))))))))))))) (.pr Y0 (.pr Y3 (.int 0))))))
theorem fact7 (ρ : Env) : E.B ρ f7 = true := by
  unfold f7
  rw [sm_B_imp]
  simp only [sm_B_and]
  rintro ⟨p0, p1, p2, p3⟩
  exact t113_start p3 p0 (by simp only [smZ] at * <;> omega) (by simp only [smZ] at * <;> omega)
def f8 : E := (.imp (.and Y20 (.cmp .eql Y5 (.fn 0 Y13))) (.cmp .eql (.fn 6 (.pr Y5 (.int 5))) (.fn 6 (.pr (.fn 0 Y13) (.int 5)))))
theorem fact8 (ρ : Env) : E.B ρ f8 = true := by
  unfold f8
  rw [sm_B_imp]
  simp only [sm_B_and]
  rintro ⟨p0, p1⟩
  try simp only [smZ] at *
  omega
def f9 : E := (.imp Y20 (.cmp .eql (.fn 6 (.pr Y5 (.int 5))) (.fn 6 (.pr (.fn 6 (.pr (.int 1) (.fn 6 (.pr (.fn 8 (.pr (.int 5) Y3)) (.fn 8 (.pr (.int 2) (.fn 114 (.pr Y0 Y3)))))))) (.fn 6 (.pr (.int 5) (.fn 8 (.pr (.int 2) (.int 0)))))))))
theorem fact9 (ρ : Env) : E.B ρ f9 = true := by
  unfold f9
  rw [sm_B_imp]
  intro p0
  try simp only [smZ] at *
  omega
def f10 : E := (.imp Y38 (.not (.cmp .lss Y33 (.int 0))))
theorem fact10 (ρ : Env) : E.B ρ f10 = true := by
  unfold f10
  rw [sm_B_imp]
  simp only [sm_B_and]
  rintro ⟨p0, p1⟩
  have ht0 := @tg_nn ρ Y0 Y3
  try simp only [smZ] at *
  have n5 := @fn0_nn ρ Y36
  omega
def f11 : E := (.imp (.and (.not Y39) (.and Y41 (.and Y25 (.and Y7 (.and Y42 Y29))))) (.fn 109 (.pr Y36 (.pr (.int 2) (.pr Y0 Y16)))))
theorem fact11 (ρ : Env) : E.B ρ f11 = true := by
  unfold f11
  rw [sm_B_imp]
  simp only [sm_B_and]
  rintro ⟨p0, p1, p2, p3, p4, p5, p6⟩
  obtain ⟨g1, g0⟩ : E.I ρ Y34 = E.I ρ (.fn 9 (.pr (.fn 1 (.pr Y0 (.fn 6 (.pr (.fn 8 (.pr Y3 (.int 5))) (.int 4))))) (.int 2))) ∧ E.I ρ Y16 = E.I ρ (.fn 6 (.pr Y3 (.int 1))) := by
    try simp only [smZ] at *
    obtain ⟨a4, ea4, qa4⟩ := cs_i64 ((E.I ρ Y3) + (1))
    try simp only [ea4] at *
    omega
  exact t113_end p6 p4 (by simp only [smZ] at * <;> omega) (by simp only [smZ] at * <;> omega) g1 g0
def f12 : E := (.imp (.and Y35 (.and Y25 (.and Y7 (.and Y28 (.and (.not (.cmp .lss (.var 26) Y33)) Y37))))) (.not (.cmp .lss (.var 26) (.int 0))))
theorem fact12 (ρ : Env) : E.B ρ f12 = true := by
  unfold f12
  rw [sm_B_imp]
  simp only [sm_B_and]
  rintro ⟨p0, p1, p2, p3, p4, p5⟩
  have hr0 := @rows_nn ρ Y0 (5)
  have ht0 := @tg_nn ρ Y0 Y3
  have hm1 := tg_le (i := Y3) p3 (by simp only [smZ] at * <;> omega) (by simp only [smZ] at * <;> omega)
  have hn1 := rows_nn (ρ := ρ) (l := (.fn 1 (.pr Y0 (.fn 6 (.pr (.fn 8 (.pr Y3 (.int 5))) (.int 4)))))) (w := 2)
  have ho1 := tg_nn (ρ := ρ) (l := Y0) (i := Y3)
  try simp only [smZ] at *
  have n7 := @fn0_nn ρ Y36
  omega
def f13 : E := (.imp Y45 (.not (.cmp .lss Y16 (.int 0))))
theorem fact13 (ρ : Env) : E.B ρ f13 = true := by
  unfold f13
  rw [sm_B_imp]
  simp only [sm_B_and]
  rintro ⟨p0, p1, p2, p3⟩
  try simp only [smZ] at *
  obtain ⟨a2, ea2, qa2⟩ := cs_i64 ((E.I ρ Y3) + (1))
  try simp only [ea2] at *
  omega
def f14 : E := (.imp (.and Y39 (.and Y35 Y32)) (.not (.cmp .lss (.int 2147483648) (.fn 6 (.pr Y33 (.int 2))))))
theorem fact14 (ρ : Env) : E.B ρ f14 = true := by
  unfold f14
  rw [sm_B_imp]
  simp only [sm_B_and]
  rintro ⟨p0, p1, p2, p3, p4, p5, p6⟩
  have hr0 := @rows_nn ρ (.fn 1 (.pr Y0 (.fn 6 (.pr (.fn 8 (.pr Y3 (.int 5))) (.int 4))))) (2)
  have hr1 := @rows_nn ρ Y0 (5)
  have ht0 := @tg_nn ρ Y0 Y3
  have ht1 := @tg_nn ρ Y0 (.fn 9 (.pr Y0 (.int 5)))
  have hm2 := tg_le (i := Y3) p6 (by simp only [smZ] at * <;> omega) (by simp only [smZ] at * <;> omega)
  have hn2 := rows_nn (ρ := ρ) (l := (.fn 1 (.pr Y0 (.fn 6 (.pr (.fn 8 (.pr Y3 (.int 5))) (.int 4)))))) (w := 2)
  have ho2 := tg_nn (ρ := ρ) (l := Y0) (i := Y3)
  try simp only [smZ] at *
  omega
def f15 : E := (.imp (.and Y28 (.and Y25 Y7)) (.not (.cmp .lss (.fn 9 (.pr Y0 (.int 5))) Y16)))
theorem fact15 (ρ : Env) : E.B ρ f15 = true := by
  unfold f15
  rw [sm_B_imp]
  simp only [sm_B_and]
  rintro ⟨p0, p1, p2⟩
  try simp only [smZ] at *
  obtain ⟨a2, ea2, qa2⟩ := cs_i64 ((E.I ρ Y3) + (1))
  try simp only [ea2] at *
  omega
def f16 : E := (.imp (.and Y39 (.and Y47 (.and Y25 (.and Y7 (.and Y42 Y48))))) (.fn 113 (.pr (.fn 3 (.pr Y36 (.fn 23 (.pr (.fn 1 (.pr (.fn 1 (.pr Y0 (.fn 6 (.pr (.fn 8 (.pr Y3 (.int 5))) (.int 4))))) (.fn 6 (.pr (.fn 8 (.pr Y34 (.int 2))) (.int 0))))) (.fn 23 (.pr (.fn 1 (.pr (.fn 1 (.pr Y0 (.fn 6 (.pr (.fn 8 (.pr Y3 (.int 5))) (.int 4))))) (.fn 6 (.pr (.fn 8 (.pr Y34 (.int 2))) (.int 1))))) (.fn 10 (.int 0)))))))) (.pr Y0 (.pr Y3 Y49)))))
theorem fact16 (ρ : Env) : E.B ρ f16 = true := by
  unfold f16
  rw [sm_B_imp]
  simp only [sm_B_and]
  rintro ⟨p0, p1, p2, p3, p4, p5, p6⟩
  have g0 : E.I ρ Y49 = E.I ρ (.fn 6 (.pr Y34 (.int 1))) := by
    have hr0 := @rows_nn ρ (.fn 1 (.pr Y0 (.fn 6 (.pr (.fn 8 (.pr Y3 (.int 5))) (.int 4))))) (2)
    have hr1 := @rows_nn ρ Y0 (5)
    have ht0 := @tg_nn ρ Y0 (.fn 9 (.pr Y0 (.int 5)))
    have hm2 := tg_le (i := Y3) p6 (by simp only [smZ] at * <;> omega) (by simp only [smZ] at * <;> omega)
    have hn2 := rows_nn (ρ := ρ) (l := (.fn 1 (.pr Y0 (.fn 6 (.pr (.fn 8 (.pr Y3 (.int 5))) (.int 4)))))) (w := 2)
    have ho2 := tg_nn (ρ := ρ) (l := Y0) (i := Y3)
    try simp only [smZ] at *
    obtain ⟨a5, ea5, qa5⟩ := cs_i64 ((E.I ρ Y34) + (1))
    try simp only [ea5] at *
    omega
  exact t113_step p6 p4 (by simp only [smZ] at * <;> omega) (by simp only [smZ] at * <;> omega) (by simp only [smZ] at * <;> omega) (by simp only [smZ] at * <;> omega) g0
def f17 : E := (.imp (.and (.not Y39) (.and Y35 (.and Y41 (.and Y25 (.and Y7 Y29))))) (.cmp .eql Y33 (.fn 6 (.pr (.int 1) (.fn 6 (.pr (.fn 8 (.pr (.int 5) Y16)) (.fn 8 (.pr (.int 2) (.fn 114 (.pr Y0 Y16))))))))))
theorem fact17 (ρ : Env) : E.B ρ f17 = true := by
  unfold f17
  rw [sm_B_imp]
  simp only [sm_B_and]
  rintro ⟨p0, p1, p2, p3, p4, p5, p6⟩
  have g0 : E.I ρ Y16 = E.I ρ (.fn 6 (.pr Y3 (.int 1))) := by
    try simp only [smZ] at *
    obtain ⟨a6, ea6, qa6⟩ := cs_i64 ((E.I ρ Y3) + (1))
    try simp only [ea6] at *
    omega
  have g1 := tg_step (i := Y3) (j := Y16) p6 (by simp only [smZ] at * <;> omega) (by simp only [smZ] at * <;> omega) g0
  try simp only [smZ] at *
  obtain ⟨a7, ea7, qa7⟩ := cs_i64 ((E.I ρ Y3) + (1))
  try simp only [ea7] at *
  omega
def f18 : E := (.imp Y50 (.not (.cmp .lss Y49 (.int 0))))
theorem fact18 (ρ : Env) : E.B ρ f18 = true := by
  unfold f18
  rw [sm_B_imp]
  simp only [sm_B_and]
  rintro ⟨p0, p1, p2, p3, p4, p5⟩
  have hr0 := @rows_nn ρ Y0 (5)
  have hr1 := @rows_nn ρ (.fn 1 (.pr Y0 (.fn 6 (.pr (.fn 8 (.pr Y3 (.int 5))) (.int 4))))) (2)
  have ht0 := @tg_nn ρ Y0 (.fn 9 (.pr Y0 (.int 5)))
  have hm4 := tg_le (i := Y3) p1 (by simp only [smZ] at * <;> omega) (by simp only [smZ] at * <;> omega)
  have hn4 := rows_nn (ρ := ρ) (l := (.fn 1 (.pr Y0 (.fn 6 (.pr (.fn 8 (.pr Y3 (.int 5))) (.int 4)))))) (w := 2)
  have ho4 := tg_nn (ρ := ρ) (l := Y0) (i := Y3)
  try simp only [smZ] at *
  obtain ⟨a5, ea5, qa5⟩ := cs_i64 ((E.I ρ Y34) + (1))
  try simp only [ea5] at *
  omega
def f19 : E := (.imp Y45 (.cmp .lss (.fn 7 (.pr (.fn 9 (.pr Y0 (.int 5))) Y16)) (.fn 7 (.pr (.fn 9 (.pr Y0 (.int 5))) Y3))))
theorem fact19 (ρ : Env) : E.B ρ f19 = true := by
  unfold f19
  rw [sm_B_imp]
  simp only [sm_B_and]
  rintro ⟨p0, p1, p2, p3⟩
  try simp only [smZ] at *
  obtain ⟨a2, ea2, qa2⟩ := cs_i64 ((E.I ρ Y3) + (1))
  try simp only [ea2] at *
  omega
def f20 : E := (.imp Y50 (.not (.cmp .lss (.fn 9 (.pr (.fn 1 (.pr Y0 (.fn 6 (.pr (.fn 8 (.pr Y3 (.int 5))) (.int 4))))) (.int 2))) Y49)))
theorem fact20 (ρ : Env) : E.B ρ f20 = true := by
  unfold f20
  rw [sm_B_imp]
  simp only [sm_B_and]
  rintro ⟨p0, p1, p2, p3, p4, p5⟩
  try simp only [smZ] at *
  obtain ⟨a5, ea5, qa5⟩ := cs_i64 ((E.I ρ Y34) + (1))
  try simp only [ea5] at *
  omega
def f21 : E := (.imp (.and Y28 (.and Y25 Y7)) (.not (.cmp .lss (.fn 7 (.pr (.fn 9 (.pr Y0 (.int 5))) Y16)) (.int 0))))
theorem fact21 (ρ : Env) : E.B ρ f21 = true := by
  unfold f21
  rw [sm_B_imp]
  simp only [sm_B_and]
  rintro ⟨p0, p1, p2⟩
  try simp only [smZ] at *
  obtain ⟨a2, ea2, qa2⟩ := cs_i64 ((E.I ρ Y3) + (1))
  try simp only [ea2] at *
  omega
def f22 : E := (.imp Y38 (.cmp .eql (.fn 6 (.pr Y33 (.int 2))) (.fn 6 (.pr (.fn 0 Y36) (.int 2)))))
theorem fact22 (ρ : Env) : E.B ρ f22 = true := by
  unfold f22
  rw [sm_B_imp]
  simp only [sm_B_and]
  rintro ⟨p0, p1⟩
  try simp only [smZ] at *
  omega
def f23 : E := (.imp (.and Y39 (.and Y35 (.and Y47 (.and Y25 (.and Y7 Y48))))) (.cmp .eql (.fn 6 (.pr Y33 (.int 2))) (.fn 6 (.pr (.fn 6 (.pr (.int 1) (.fn 6 (.pr (.fn 8 (.pr (.int 5) Y3)) (.fn 8 (.pr (.int 2) (.fn 114 (.pr Y0 Y3)))))))) (.fn 6 (.pr (.int 5) (.fn 8 (.pr (.int 2) Y49))))))))
theorem fact23 (ρ : Env) : E.B ρ f23 = true := by
  unfold f23
  rw [sm_B_imp]
  simp only [sm_B_and]
  rintro ⟨p0, p1, p2, p3, p4, p5, p6⟩
  have hr0 := @rows_nn ρ (.fn 1 (.pr Y0 (.fn 6 (.pr (.fn 8 (.pr Y3 (.int 5))) (.int 4))))) (2)
  have hr1 := @rows_nn ρ Y0 (5)
  have ht0 := @tg_nn ρ Y0 Y3
  have ht1 := @tg_nn ρ Y0 (.fn 9 (.pr Y0 (.int 5)))
  have hm3 := tg_le (i := Y3) p6 (by simp only [smZ] at * <;> omega) (by simp only [smZ] at * <;> omega)
  have hn3 := rows_nn (ρ := ρ) (l := (.fn 1 (.pr Y0 (.fn 6 (.pr (.fn 8 (.pr Y3 (.int 5))) (.int 4)))))) (w := 2)
  have ho3 := tg_nn (ρ := ρ) (l := Y0) (i := Y3)
  try simp only [smZ] at *
  obtain ⟨a7, ea7, qa7⟩ := cs_i64 ((E.I ρ Y34) + (1))
  try simp only [ea7] at *
  omega
def f24 : E := (.imp Y50 (.cmp .lss (.fn 7 (.pr (.fn 9 (.pr (.fn 1 (.pr Y0 (.fn 6 (.pr (.fn 8 (.pr Y3 (.int 5))) (.int 4))))) (.int 2))) Y49)) (.fn 7 (.pr (.fn 9 (.pr (.fn 1 (.pr Y0 (.fn 6 (.pr (.fn 8 (.pr Y3 (.int 5))) (.int 4))))) (.int 2))) Y34))))
theorem fact24 (ρ : Env) : E.B ρ f24 = true := by
  unfold f24
  rw [sm_B_imp]
  simp only [sm_B_and]
  rintro ⟨p0, p1, p2, p3, p4, p5⟩
  have hr0 := @rows_nn ρ Y0 (5)
  have hr1 := @rows_nn ρ (.fn 1 (.pr Y0 (.fn 6 (.pr (.fn 8 (.pr Y3 (.int 5))) (.int 4))))) (2)
  have ht0 := @tg_nn ρ Y0 (.fn 9 (.pr Y0 (.int 5)))
  have hm4 := tg_le (i := Y3) p1 (by simp only [smZ] at * <;> omega) (by simp only [smZ] at * <;> omega)
  have hn4 := rows_nn (ρ := ρ) (l := (.fn 1 (.pr Y0 (.fn 6 (.pr (.fn 8 (.pr Y3 (.int 5))) (.int 4)))))) (w := 2)
  have ho4 := tg_nn (ρ := ρ) (l := Y0) (i := Y3)
  try simp only [smZ] at *
  obtain ⟨a5, ea5, qa5⟩ := cs_i64 ((E.I ρ Y34) + (1))
  try simp only [ea5] at *
  omega
def f25 : E := (.imp Y50 (.not (.cmp .lss (.fn 7 (.pr (.fn 9 (.pr (.fn 1 (.pr Y0 (.fn 6 (.pr (.fn 8 (.pr Y3 (.int 5))) (.int 4))))) (.int 2))) Y49)) (.int 0))))
theorem fact25 (ρ : Env) : E.B ρ f25 = true := by
  unfold f25
  rw [sm_B_imp]
  simp only [sm_B_and]
  rintro ⟨p0, p1, p2, p3, p4, p5⟩
  try simp only [smZ] at *
  obtain ⟨a5, ea5, qa5⟩ := cs_i64 ((E.I ρ Y34) + (1))
  try simp only [ea5] at *
  omega
def facts : List E := [f0, f1, f2, f3, f4, f5, f6, f7, f8, f9, f10, f11, f12, f13, f14, f15, f16, f17, f18, f19, f20, f21, f22, f23, f24, f25]
theorem facts_ok : ∀ e ∈ facts, ∀ ρ : Env, E.B ρ e = true := (all_cons fact0 (all_cons fact1 (all_cons fact2 (all_cons fact3 (all_cons fact4 (all_cons fact5 (all_cons fact6 (all_cons fact7 (all_cons fact8 (all_cons fact9 (all_cons fact10 (all_cons fact11 (all_cons fact12 (all_cons fact13 (all_cons fact14 (all_cons fact15 (all_cons fact16 (all_cons fact17 (all_cons fact18 (all_cons fact19 (all_cons fact20 (all_cons fact21 (all_cons fact22 (all_cons fact23 (all_cons fact24 (all_cons fact25 all_nil))))))))))))))))))))))))))
end p11
set_option maxRecDepth 100000 in
theorem spec11_0 : NatOk Try.prog (specNat (spFI)) :=
  spec_of_check good (facts := p11.facts) p11.facts_ok (anns := annFI) (plainAnns_ok _ (by kernel_rfl)) (nats := natl12) natl12_ok (n := 3000) (by kernel_rfl)
def natl13 : List Nat1 := specNat (spFI) :: natl12
theorem natl13_ok : ∀ x ∈ natl13, NatOk Try.prog x := by
  intro x hx
  rcases List.mem_cons.1 hx with rfl | hx
  · exact spec11_0
  exact natl12_ok x hx

namespace p12
def f0 : E := (.imp (.fn 118 (.pr (.int 0) Y0)) (.fn 109 (.pr (.fn 3 (.pr (.fn 23 (.pr (.fn 0 Y0) (.fn 10 (.int 0)))) Y0)) (.pr (.int 4) (.pr Y0 (.fn 0 Y0))))))
theorem fact0 (ρ : Env) : E.B ρ f0 = true := by
  unfold f0
  rw [sm_B_imp]
  intro p0
  exact t109_ints p0
def f1 : E := (.imp (.not (.cmp .lss (.int 1000) (.fn 0 Y0))) (.cmp .eql (.fn 6 (.pr (.fn 0 Y0) (.int 1))) (.fn 6 (.pr (.int 1) (.fn 0 Y0)))))
theorem fact1 (ρ : Env) : E.B ρ f1 = true := by
  unfold f1
  rw [sm_B_imp]
  intro p0
  try simp only [smZ] at *
  omega
def facts : List E := [f0, f1]
theorem facts_ok : ∀ e ∈ facts, ∀ ρ : Env, E.B ρ e = true := (all_cons fact0 (all_cons fact1 all_nil))
end p12
set_option maxRecDepth 100000 in
theorem spec12_0 : NatOk Try.prog (specNat (spFN)) :=
  spec_of_check good (facts := p12.facts) p12.facts_ok (anns := []) (plainAnns_ok _ (by kernel_rfl)) (nats := natl13) natl13_ok (n := 3000) (by kernel_rfl)
def natl14 : List Nat1 := specNat (spFN) :: natl13
theorem natl14_ok : ∀ x ∈ natl14, NatOk Try.prog x := by
  intro x hx
  rcases List.mem_cons.1 hx with rfl | hx
  · exact spec12_0
  exact natl13_ok x hx

namespace p13
def f0 : E := (.imp Y51 (.fn 118 (.pr (.int 1) (.fn 1 (.pr Y0 (.int 8))))))
theorem fact0 (ρ : Env) : E.B ρ f0 = true := by
  unfold f0
  rw [sm_B_imp]
  intro p0
  exact vl p0 8 rfl
def f1 : E := (.imp Y52 (.not (.cmp .lss (.int 1000) (.fn 9 (.pr (.fn 1 (.pr Y0 (.int 8))) (.int 12))))))
theorem fact1 (ρ : Env) : E.B ρ f1 = true := by
  unfold f1
  rw [sm_B_imp]
  intro p0
  try simp only [smZ] at *
  omega
def f2 : E := (.imp (.and Y52 Y54) (.not (.cmp .lss Y53 (.int 0))))
theorem fact2 (ρ : Env) : E.B ρ f2 = true := by
  unfold f2
  rw [sm_B_imp]
  simp only [sm_B_and]
  rintro ⟨p0, p1⟩
  have hr0 := @rows_nn ρ (.fn 1 (.pr Y0 (.int 8))) (12)
  try simp only [smZ] at *
  omega
def f3 : E := (.imp (.and Y52 Y54) (.not (.cmp .lss (.int 2147483648) (.fn 6 (.pr Y53 (.int 8))))))
theorem fact3 (ρ : Env) : E.B ρ f3 = true := by
  unfold f3
  rw [sm_B_imp]
  simp only [sm_B_and]
  rintro ⟨p0, p1⟩
  try simp only [smZ] at *
  omega
def f4 : E := (.imp Y51 (.fn 118 (.pr (.int 1) (.fn 1 (.pr Y0 (.int 9))))))
theorem fact4 (ρ : Env) : E.B ρ f4 = true := by
  unfold f4
  rw [sm_B_imp]
  intro p0
  exact vl p0 9 rfl
def f5 : E := (.imp Y52 (.not (.cmp .lss (.int 1000) (.fn 9 (.pr (.fn 1 (.pr Y0 (.int 9))) (.int 12))))))
theorem fact5 (ρ : Env) : E.B ρ f5 = true := by
  unfold f5
  rw [sm_B_imp]
  intro p0
  try simp only [smZ] at *
  omega
def f6 : E := (.imp (.and Y52 Y54) (.not (.cmp .lss (.fn 6 (.pr Y53 (.int 8))) (.int 0))))
theorem fact6 (ρ : Env) : E.B ρ f6 = true := by
  unfold f6
  rw [sm_B_imp]
  simp only [sm_B_and]
  rintro ⟨p0, p1⟩
  have hr0 := @rows_nn ρ (.fn 1 (.pr Y0 (.int 8))) (12)
  try simp only [smZ] at *
  omega
def f7 : E := (.imp (.and Y52 Y56) (.not (.cmp .lss Y55 (.int 0))))
theorem fact7 (ρ : Env) : E.B ρ f7 = true := by
  unfold f7
  rw [sm_B_imp]
  simp only [sm_B_and]
  rintro ⟨p0, p1⟩
  have hr0 := @rows_nn ρ (.fn 1 (.pr Y0 (.int 9))) (12)
  try simp only [smZ] at *
  omega
def f8 : E := (.imp Y57 (.not (.cmp .lss (.int 2147483648) (.fn 6 (.pr (.fn 6 (.pr Y53 (.int 8))) Y55)))))
theorem fact8 (ρ : Env) : E.B ρ f8 = true := by
  unfold f8
  rw [sm_B_imp]
  simp only [sm_B_and]
  rintro ⟨p0, p1, p2⟩
  try simp only [smZ] at *
  omega
def f9 : E := (.imp Y57 (.not (.cmp .lss (.fn 6 (.pr (.fn 6 (.pr Y53 (.int 8))) Y55)) (.int 0))))
theorem fact9 (ρ : Env) : E.B ρ f9 = true := by
  unfold f9
  rw [sm_B_imp]
  simp only [sm_B_and]
  rintro ⟨p0, p1, p2⟩
  have hr0 := @rows_nn ρ (.fn 1 (.pr Y0 (.int 8))) (12)
  have hr1 := @rows_nn ρ (.fn 1 (.pr Y0 (.int 9))) (12)
  try simp only [smZ] at *
  omega
def f10 : E := (.imp Y57 (.not (.cmp .lss (.int 2147483648) (.fn 6 (.pr (.fn 6 (.pr (.fn 6 (.pr Y53 (.int 8))) Y55)) (.int 5))))))
theorem fact10 (ρ : Env) : E.B ρ f10 = true := by
  unfold f10
  rw [sm_B_imp]
  simp only [sm_B_and]
  rintro ⟨p0, p1, p2⟩
  try simp only [smZ] at *
  omega
def f11 : E := (.imp Y57 (.not (.cmp .lss (.fn 6 (.pr (.fn 6 (.pr (.fn 6 (.pr Y53 (.int 8))) Y55)) (.int 5))) (.int 0))))
theorem fact11 (ρ : Env) : E.B ρ f11 = true := by
  unfold f11
  rw [sm_B_imp]
  simp only [sm_B_and]
  rintro ⟨p0, p1, p2⟩
  have hr0 := @rows_nn ρ (.fn 1 (.pr Y0 (.int 8))) (12)
  have hr1 := @rows_nn ρ (.fn 1 (.pr Y0 (.int 9))) (12)
  try simp only [smZ] at *
  omega
def f12 : E := (.imp Y57 (.not (.cmp .lss (.int 2147483648) (.fn 6 (.pr (.fn 6 (.pr (.fn 6 (.pr Y53 (.int 8))) Y55)) (.int 12))))))
theorem fact12 (ρ : Env) : E.B ρ f12 = true := by
  unfold f12
  rw [sm_B_imp]
  simp only [sm_B_and]
  rintro ⟨p0, p1, p2⟩
  try simp only [smZ] at *
  omega
def f13 : E := (.imp Y51 (.fn 118 (.pr (.int 1) (.fn 1 (.pr Y0 (.int 22))))))
theorem fact13 (ρ : Env) : E.B ρ f13 = true := by
  unfold f13
  rw [sm_B_imp]
  intro p0
  exact vl p0 22 rfl
def f14 : E := (.imp Y52 (.not (.cmp .lss (.int 1000) (.fn 9 (.pr (.fn 1 (.pr Y0 (.int 22))) (.int 12))))))
theorem fact14 (ρ : Env) : E.B ρ f14 = true := by
  unfold f14
  rw [sm_B_imp]
  intro p0
  try simp only [smZ] at *
  omega
def f15 : E := (.imp Y57 (.not (.cmp .lss (.fn 6 (.pr (.fn 6 (.pr (.fn 6 (.pr Y53 (.int 8))) Y55)) (.int 12))) (.int 0))))
theorem fact15 (ρ : Env) : E.B ρ f15 = true := by
  unfold f15
  rw [sm_B_imp]
  simp only [sm_B_and]
  rintro ⟨p0, p1, p2⟩
  have hr0 := @rows_nn ρ (.fn 1 (.pr Y0 (.int 8))) (12)
  have hr1 := @rows_nn ρ (.fn 1 (.pr Y0 (.int 9))) (12)
  try simp only [smZ] at *
  omega
def f16 : E := (.imp (.and Y52 Y59) (.not (.cmp .lss Y58 (.int 0))))
theorem fact16 (ρ : Env) : E.B ρ f16 = true := by
  unfold f16
  rw [sm_B_imp]
  simp only [sm_B_and]
  rintro ⟨p0, p1⟩
  have hr0 := @rows_nn ρ (.fn 1 (.pr Y0 (.int 22))) (12)
  try simp only [smZ] at *
  omega
def f17 : E := (.imp Y60 (.not (.cmp .lss (.int 2147483648) (.fn 6 (.pr (.fn 6 (.pr (.fn 6 (.pr (.fn 6 (.pr Y53 (.int 8))) Y55)) (.int 12))) Y58)))))
theorem fact17 (ρ : Env) : E.B ρ f17 = true := by
  unfold f17
  rw [sm_B_imp]
  simp only [sm_B_and]
  rintro ⟨p0, p1, p2, p3⟩
  try simp only [smZ] at *
  omega
def f18 : E := (.imp Y51 (.fn 118 (.pr (.int 1) (.fn 1 (.pr Y0 (.int 23))))))
theorem fact18 (ρ : Env) : E.B ρ f18 = true := by
  unfold f18
  rw [sm_B_imp]
  intro p0
  exact vl p0 23 rfl
def f19 : E := (.imp Y52 (.not (.cmp .lss (.int 1000) (.fn 9 (.pr (.fn 1 (.pr Y0 (.int 23))) (.int 12))))))
theorem fact19 (ρ : Env) : E.B ρ f19 = true := by
  unfold f19
  rw [sm_B_imp]
  intro p0
  try simp only [smZ] at *
  omega
def f20 : E := (.imp Y60 (.not (.cmp .lss (.fn 6 (.pr (.fn 6 (.pr (.fn 6 (.pr (.fn 6 (.pr Y53 (.int 8))) Y55)) (.int 12))) Y58)) (.int 0))))
theorem fact20 (ρ : Env) : E.B ρ f20 = true := by
  unfold f20
  rw [sm_B_imp]
  simp only [sm_B_and]
  rintro ⟨p0, p1, p2, p3⟩
  have hr0 := @rows_nn ρ (.fn 1 (.pr Y0 (.int 8))) (12)
  have hr1 := @rows_nn ρ (.fn 1 (.pr Y0 (.int 9))) (12)
  have hr2 := @rows_nn ρ (.fn 1 (.pr Y0 (.int 22))) (12)
  try simp only [smZ] at *
  omega
def f21 : E := (.imp (.and Y52 Y62) (.not (.cmp .lss Y61 (.int 0))))
theorem fact21 (ρ : Env) : E.B ρ f21 = true := by
  unfold f21
  rw [sm_B_imp]
  simp only [sm_B_and]
  rintro ⟨p0, p1⟩
  have hr0 := @rows_nn ρ (.fn 1 (.pr Y0 (.int 23))) (12)
  try simp only [smZ] at *
  omega
def f22 : E := (.imp Y63 (.not (.cmp .lss (.int 2147483648) (.fn 6 (.pr (.fn 6 (.pr (.fn 6 (.pr (.fn 6 (.pr (.fn 6 (.pr Y53 (.int 8))) Y55)) (.int 12))) Y58)) Y61)))))
theorem fact22 (ρ : Env) : E.B ρ f22 = true := by
  unfold f22
  rw [sm_B_imp]
  simp only [sm_B_and]
  rintro ⟨p0, p1, p2, p3, p4⟩
  try simp only [smZ] at *
  omega
def f23 : E := (.imp Y63 (.not (.cmp .lss (.fn 6 (.pr (.fn 6 (.pr (.fn 6 (.pr (.fn 6 (.pr (.fn 6 (.pr Y53 (.int 8))) Y55)) (.int 12))) Y58)) Y61)) (.int 0))))
theorem fact23 (ρ : Env) : E.B ρ f23 = true := by
  unfold f23
  rw [sm_B_imp]
  simp only [sm_B_and]
  rintro ⟨p0, p1, p2, p3, p4⟩
  have hr0 := @rows_nn ρ (.fn 1 (.pr Y0 (.int 8))) (12)
  have hr1 := @rows_nn ρ (.fn 1 (.pr Y0 (.int 9))) (12)
  have hr2 := @rows_nn ρ (.fn 1 (.pr Y0 (.int 22))) (12)
  have hr3 := @rows_nn ρ (.fn 1 (.pr Y0 (.int 23))) (12)
  try simp only [smZ] at *
  omega
def f24 : E := (.imp Y63 (.not (.cmp .lss (.int 2147483648) (.fn 6 (.pr (.fn 6 (.pr (.fn 6 (.pr (.fn 6 (.pr (.fn 6 (.pr (.fn 6 (.pr Y53 (.int 8))) Y55)) (.int 12))) Y58)) Y61)) (.int 5))))))
theorem fact24 (ρ : Env) : E.B ρ f24 = true := by
  unfold f24
  rw [sm_B_imp]
  simp only [sm_B_and]
  rintro ⟨p0, p1, p2, p3, p4⟩
  try simp only [smZ] at *
  omega
def f25 : E := (.imp Y51 (.fn 118 (.pr (.int 1) (.fn 1 (.pr Y0 (.int 29))))))
theorem fact25 (ρ : Env) : E.B ρ f25 = true := by
  unfold f25
  rw [sm_B_imp]
  intro p0
  exact vl p0 29 rfl
def f26 : E := (.imp Y52 (.not (.cmp .lss (.int 1000) (.fn 9 (.pr (.fn 1 (.pr Y0 (.int 29))) (.int 12))))))
theorem fact26 (ρ : Env) : E.B ρ f26 = true := by
  unfold f26
  rw [sm_B_imp]
  intro p0
  try simp only [smZ] at *
  omega
def f27 : E := (.imp Y63 (.not (.cmp .lss (.fn 6 (.pr (.fn 6 (.pr (.fn 6 (.pr (.fn 6 (.pr (.fn 6 (.pr (.fn 6 (.pr Y53 (.int 8))) Y55)) (.int 12))) Y58)) Y61)) (.int 5))) (.int 0))))
theorem fact27 (ρ : Env) : E.B ρ f27 = true := by
  unfold f27
  rw [sm_B_imp]
  simp only [sm_B_and]
  rintro ⟨p0, p1, p2, p3, p4⟩
  have hr0 := @rows_nn ρ (.fn 1 (.pr Y0 (.int 8))) (12)
  have hr1 := @rows_nn ρ (.fn 1 (.pr Y0 (.int 9))) (12)
  have hr2 := @rows_nn ρ (.fn 1 (.pr Y0 (.int 22))) (12)
  have hr3 := @rows_nn ρ (.fn 1 (.pr Y0 (.int 23))) (12)
  try simp only [smZ] at *
  omega
def f28 : E := (.imp (.and Y52 Y65) (.not (.cmp .lss Y64 (.int 0))))
theorem fact28 (ρ : Env) : E.B ρ f28 = true := by
  unfold f28
  rw [sm_B_imp]
  simp only [sm_B_and]
  rintro ⟨p0, p1⟩
  have hr0 := @rows_nn ρ (.fn 1 (.pr Y0 (.int 29))) (12)
  try simp only [smZ] at *
  omega
def f29 : E := (.imp (.and Y52 (.and Y54 (.and Y56 (.and Y59 (.and Y62 Y65))))) (.not (.cmp .lss (.int 2147483648) (.fn 6 (.pr (.fn 6 (.pr (.fn 6 (.pr (.fn 6 (.pr (.fn 6 (.pr (.fn 6 (.pr (.fn 6 (.pr Y53 (.int 8))) Y55)) (.int 12))) Y58)) Y61)) (.int 5))) Y64)))))
theorem fact29 (ρ : Env) : E.B ρ f29 = true := by
  unfold f29
  rw [sm_B_imp]
  simp only [sm_B_and]
  rintro ⟨p0, p1, p2, p3, p4, p5⟩
  try simp only [smZ] at *
  omega
def f30 : E := (.imp Y51 (.fn 118 (.pr (.int 2) (.fn 1 (.pr Y0 (.int 30))))))
theorem fact30 (ρ : Env) : E.B ρ f30 = true := by
  unfold f30
  rw [sm_B_imp]
  intro p0
  exact vl p0 30 rfl
def f31 : E := (.imp Y52 (.not (.cmp .lss (.int 1000) (.fn 9 (.pr (.fn 1 (.pr Y0 (.int 30))) (.int 5))))))
theorem fact31 (ρ : Env) : E.B ρ f31 = true := by
  unfold f31
  rw [sm_B_imp]
  intro p0
  try simp only [smZ] at *
  omega
def f32 : E := (.imp Y52 (.not (.cmp .lss (.int 5000) (.fn 114 (.pr (.fn 1 (.pr Y0 (.int 30))) (.fn 9 (.pr (.fn 1 (.pr Y0 (.int 30))) (.int 5))))))))
theorem fact32 (ρ : Env) : E.B ρ f32 = true := by
  unfold f32
  rw [sm_B_imp]
  intro p0
  try simp only [smZ] at *
  omega
def f33 : E := (.imp (.and Y52 (.and Y54 (.and Y56 (.and Y59 (.and Y62 (.and Y65 Y66)))))) (.not (.cmp .lss (.fn 6 (.pr (.fn 6 (.pr (.fn 6 (.pr (.fn 6 (.pr (.fn 6 (.pr (.fn 6 (.pr (.fn 6 (.pr Y53 (.int 8))) Y55)) (.int 12))) Y58)) Y61)) (.int 5))) Y64)) (.int 0))))
theorem fact33 (ρ : Env) : E.B ρ f33 = true := by
  unfold f33
  rw [sm_B_imp]
  simp only [sm_B_and]
  rintro ⟨p0, p1, p2, p3, p4, p5, p6⟩
  have hr0 := @rows_nn ρ (.fn 1 (.pr Y0 (.int 8))) (12)
  have hr1 := @rows_nn ρ (.fn 1 (.pr Y0 (.int 9))) (12)
  have hr2 := @rows_nn ρ (.fn 1 (.pr Y0 (.int 22))) (12)
  have hr3 := @rows_nn ρ (.fn 1 (.pr Y0 (.int 23))) (12)
  have hr4 := @rows_nn ρ (.fn 1 (.pr Y0 (.int 29))) (12)
  try simp only [smZ] at *
  have n11 := @fn0_nn ρ Y34
  omega
def f34 : E := (.imp (.and Y68 Y69) (.not (.cmp .lss Y67 (.int 0))))
theorem fact34 (ρ : Env) : E.B ρ f34 = true := by
  unfold f34
  rw [sm_B_imp]
  simp only [sm_B_and]
  rintro ⟨p0, p1⟩
  have hr0 := @rows_nn ρ (.fn 1 (.pr Y0 (.int 30))) (5)
  have ht0 := @tg_nn ρ (.fn 1 (.pr Y0 (.int 30))) (.fn 9 (.pr (.fn 1 (.pr Y0 (.int 30))) (.int 5)))
  try simp only [smZ] at *
  have n4 := @fn0_nn ρ (.var 31)
  omega
def f35 : E := (.imp (.and Y54 (.and Y56 (.and Y59 (.and Y62 (.and Y65 (.and Y68 Y52)))))) (.not (.cmp .lss (.int 2147483648) (.fn 6 (.pr (.fn 6 (.pr (.fn 6 (.pr (.fn 6 (.pr (.fn 6 (.pr (.fn 6 (.pr (.fn 6 (.pr (.fn 6 (.pr Y53 (.int 8))) Y55)) (.int 12))) Y58)) Y61)) (.int 5))) Y64)) Y67)))))
theorem fact35 (ρ : Env) : E.B ρ f35 = true := by
  unfold f35
  rw [sm_B_imp]
  simp only [sm_B_and]
  rintro ⟨p0, p1, p2, p3, p4, p5, p6⟩
  try simp only [smZ] at *
  omega
def f36 : E := (.imp Y51 (.fn 118 (.pr (.int 2) (.fn 1 (.pr Y0 (.int 31))))))
theorem fact36 (ρ : Env) : E.B ρ f36 = true := by
  unfold f36
  rw [sm_B_imp]
  intro p0
  exact vl p0 31 rfl
def f37 : E := (.imp Y52 (.not (.cmp .lss (.int 1000) (.fn 9 (.pr (.fn 1 (.pr Y0 (.int 31))) (.int 5))))))
theorem fact37 (ρ : Env) : E.B ρ f37 = true := by
  unfold f37
  rw [sm_B_imp]
  intro p0
  try simp only [smZ] at *
  omega
def f38 : E := (.imp Y52 (.not (.cmp .lss (.int 5000) (.fn 114 (.pr (.fn 1 (.pr Y0 (.int 31))) (.fn 9 (.pr (.fn 1 (.pr Y0 (.int 31))) (.int 5))))))))
theorem fact38 (ρ : Env) : E.B ρ f38 = true := by
  unfold f38
  rw [sm_B_imp]
  intro p0
  try simp only [smZ] at *
  omega
def f39 : E := (.imp (.and Y54 (.and Y56 (.and Y59 (.and Y62 (.and Y65 (.and Y66 (.and Y68 (.and Y69 Y52)))))))) (.not (.cmp .lss (.fn 6 (.pr (.fn 6 (.pr (.fn 6 (.pr (.fn 6 (.pr (.fn 6 (.pr (.fn 6 (.pr (.fn 6 (.pr (.fn 6 (.pr Y53 (.int 8))) Y55)) (.int 12))) Y58)) Y61)) (.int 5))) Y64)) Y67)) (.int 0))))
theorem fact39 (ρ : Env) : E.B ρ f39 = true := by
  unfold f39
  rw [sm_B_imp]
  simp only [sm_B_and]
  rintro ⟨p0, p1, p2, p3, p4, p5, p6, p7, p8⟩
  have hr0 := @rows_nn ρ (.fn 1 (.pr Y0 (.int 8))) (12)
  have hr1 := @rows_nn ρ (.fn 1 (.pr Y0 (.int 9))) (12)
  have hr2 := @rows_nn ρ (.fn 1 (.pr Y0 (.int 22))) (12)
  have hr3 := @rows_nn ρ (.fn 1 (.pr Y0 (.int 23))) (12)
  have hr4 := @rows_nn ρ (.fn 1 (.pr Y0 (.int 29))) (12)
  have hr5 := @rows_nn ρ (.fn 1 (.pr Y0 (.int 30))) (5)
  have ht0 := @tg_nn ρ (.fn 1 (.pr Y0 (.int 30))) (.fn 9 (.pr (.fn 1 (.pr Y0 (.int 30))) (.int 5)))
  try simp only [smZ] at *
  have n11 := @fn0_nn ρ Y34
  have n15 := @fn0_nn ρ (.var 31)
  omega
def f40 : E := (.imp (.and Y71 Y73) (.not (.cmp .lss Y70 (.int 0))))
theorem fact40 (ρ : Env) : E.B ρ f40 = true := by
  unfold f40
  rw [sm_B_imp]
  simp only [sm_B_and]
  rintro ⟨p0, p1⟩
  have hr0 := @rows_nn ρ (.fn 1 (.pr Y0 (.int 31))) (5)
  have ht0 := @tg_nn ρ (.fn 1 (.pr Y0 (.int 31))) (.fn 9 (.pr (.fn 1 (.pr Y0 (.int 31))) (.int 5)))
  try simp only [smZ] at *
  have n4 := @fn0_nn ρ Y72
  omega
def f41 : E := (.imp (.and Y54 (.and Y56 (.and Y59 (.and Y62 (.and Y65 (.and Y68 (.and Y71 Y52))))))) (.not (.cmp .lss (.int 2147483648) (.fn 6 (.pr (.fn 6 (.pr (.fn 6 (.pr (.fn 6 (.pr (.fn 6 (.pr (.fn 6 (.pr (.fn 6 (.pr (.fn 6 (.pr (.fn 6 (.pr Y53 (.int 8))) Y55)) (.int 12))) Y58)) Y61)) (.int 5))) Y64)) Y67)) Y70)))))
theorem fact41 (ρ : Env) : E.B ρ f41 = true := by
  unfold f41
  rw [sm_B_imp]
  simp only [sm_B_and]
  rintro ⟨p0, p1, p2, p3, p4, p5, p6, p7⟩
  try simp only [smZ] at *
  omega
def f42 : E := (.imp Y51 (.fn 118 (.pr (.int 0) (.fn 1 (.pr Y0 (.int 32))))))
theorem fact42 (ρ : Env) : E.B ρ f42 = true := by
  unfold f42
  rw [sm_B_imp]
  intro p0
  exact vl p0 32 rfl
def f43 : E := (.imp Y52 (.not (.cmp .lss (.int 1000) (.fn 0 (.fn 1 (.pr Y0 (.int 32)))))))
theorem fact43 (ρ : Env) : E.B ρ f43 = true := by
  unfold f43
  rw [sm_B_imp]
  intro p0
  try simp only [smZ] at *
  omega
def f44 : E := (.imp (.and Y54 (.and Y56 (.and Y59 (.and Y62 (.and Y65 (.and Y66 (.and Y68 (.and Y71 (.and Y73 Y52))))))))) (.not (.cmp .lss (.fn 6 (.pr (.fn 6 (.pr (.fn 6 (.pr (.fn 6 (.pr (.fn 6 (.pr (.fn 6 (.pr (.fn 6 (.pr (.fn 6 (.pr (.fn 6 (.pr Y53 (.int 8))) Y55)) (.int 12))) Y58)) Y61)) (.int 5))) Y64)) Y67)) Y70)) (.int 0))))
theorem fact44 (ρ : Env) : E.B ρ f44 = true := by
  unfold f44
  rw [sm_B_imp]
  simp only [sm_B_and]
  rintro ⟨p0, p1, p2, p3, p4, p5, p6, p7, p8, p9⟩
  have hr0 := @rows_nn ρ (.fn 1 (.pr Y0 (.int 8))) (12)
  have hr1 := @rows_nn ρ (.fn 1 (.pr Y0 (.int 9))) (12)
  have hr2 := @rows_nn ρ (.fn 1 (.pr Y0 (.int 22))) (12)
  have hr3 := @rows_nn ρ (.fn 1 (.pr Y0 (.int 23))) (12)
  have hr4 := @rows_nn ρ (.fn 1 (.pr Y0 (.int 29))) (12)
  have hr5 := @rows_nn ρ (.fn 1 (.pr Y0 (.int 30))) (5)
  have hr6 := @rows_nn ρ (.fn 1 (.pr Y0 (.int 31))) (5)
  have ht0 := @tg_nn ρ (.fn 1 (.pr Y0 (.int 30))) (.fn 9 (.pr (.fn 1 (.pr Y0 (.int 30))) (.int 5)))
  have ht1 := @tg_nn ρ (.fn 1 (.pr Y0 (.int 31))) (.fn 9 (.pr (.fn 1 (.pr Y0 (.int 31))) (.int 5)))
  try simp only [smZ] at *
  have n11 := @fn0_nn ρ Y34
  have n18 := @fn0_nn ρ Y72
  omega
def f45 : E := (.imp (.and Y52 (.and Y75 Y76)) (.not (.cmp .lss Y74 (.int 0))))
theorem fact45 (ρ : Env) : E.B ρ f45 = true := by
  unfold f45
  rw [sm_B_imp]
  simp only [sm_B_and]
  rintro ⟨p0, p1, p2⟩
  try simp only [smZ] at *
  have n2 := @fn0_nn ρ (.fn 1 (.pr Y0 (.int 32)))
  have n3 := @fn0_nn ρ (.var 39)
  omega
def f46 : E := (.imp Y85 (.not (.cmp .lss (.int 2147483648) (.fn 6 (.pr (.fn 6 (.pr (.fn 6 (.pr (.fn 6 (.pr (.fn 6 (.pr (.fn 6 (.pr (.fn 6 (.pr (.fn 6 (.pr (.fn 6 (.pr (.fn 6 (.pr Y53 (.int 8))) Y55)) (.int 12))) Y58)) Y61)) (.int 5))) Y64)) Y67)) Y70)) Y74)))))
theorem fact46 (ρ : Env) : E.B ρ f46 = true := by
  unfold f46
  rw [sm_B_imp]
  simp only [sm_B_and]
  rintro ⟨p0, p1, p2, p3, p4, p5, p6, p7, p8, p9⟩
  try simp only [smZ] at *
  omega
def f47 : E := (.imp Y94 (.not (.cmp .lss (.fn 6 (.pr (.fn 6 (.pr (.fn 6 (.pr (.fn 6 (.pr (.fn 6 (.pr (.fn 6 (.pr (.fn 6 (.pr (.fn 6 (.pr (.fn 6 (.pr (.fn 6 (.pr Y53 (.int 8))) Y55)) (.int 12))) Y58)) Y61)) (.int 5))) Y64)) Y67)) Y70)) Y74)) (.int 0))))
theorem fact47 (ρ : Env) : E.B ρ f47 = true := by
  unfold f47
  rw [sm_B_imp]
  simp only [sm_B_and]
  rintro ⟨p0, p1, p2, p3, p4, p5, p6, p7, p8, p9, p10, p11⟩
  have hr0 := @rows_nn ρ (.fn 1 (.pr Y0 (.int 8))) (12)
  have hr1 := @rows_nn ρ (.fn 1 (.pr Y0 (.int 9))) (12)
  have hr2 := @rows_nn ρ (.fn 1 (.pr Y0 (.int 22))) (12)
  have hr3 := @rows_nn ρ (.fn 1 (.pr Y0 (.int 23))) (12)
  have hr4 := @rows_nn ρ (.fn 1 (.pr Y0 (.int 29))) (12)
  have hr5 := @rows_nn ρ (.fn 1 (.pr Y0 (.int 30))) (5)
  have hr6 := @rows_nn ρ (.fn 1 (.pr Y0 (.int 31))) (5)
  have ht0 := @tg_nn ρ (.fn 1 (.pr Y0 (.int 30))) (.fn 9 (.pr (.fn 1 (.pr Y0 (.int 30))) (.int 5)))
  have ht1 := @tg_nn ρ (.fn 1 (.pr Y0 (.int 31))) (.fn 9 (.pr (.fn 1 (.pr Y0 (.int 31))) (.int 5)))
  try simp only [smZ] at *
  have n11 := @fn0_nn ρ Y34
  have n18 := @fn0_nn ρ Y72
  have n20 := @fn0_nn ρ (.fn 1 (.pr Y0 (.int 32)))
  have n21 := @fn0_nn ρ (.var 39)
  omega
def f48 : E := (.imp Y85 (.not (.cmp .lss (.int 2147483648) (.fn 6 (.pr (.fn 6 (.pr (.fn 6 (.pr (.fn 6 (.pr (.fn 6 (.pr (.fn 6 (.pr (.fn 6 (.pr (.fn 6 (.pr (.fn 6 (.pr (.fn 6 (.pr (.fn 6 (.pr Y53 (.int 8))) Y55)) (.int 12))) Y58)) Y61)) (.int 5))) Y64)) Y67)) Y70)) Y74)) (.int 1))))))
theorem fact48 (ρ : Env) : E.B ρ f48 = true := by
  unfold f48
  rw [sm_B_imp]
  simp only [sm_B_and]
  rintro ⟨p0, p1, p2, p3, p4, p5, p6, p7, p8, p9⟩
  try simp only [smZ] at *
  omega
def f49 : E := (.imp (.and (.fn 109 (.pr (.var 2) (.pr (.int 1) (.pr (.fn 1 (.pr Y0 (.int 8))) (.fn 9 (.pr (.fn 1 (.pr Y0 (.int 8))) (.int 12))))))) (.and (.fn 109 (.pr (.var 6) (.pr (.int 1) (.pr (.fn 1 (.pr Y0 (.int 9))) (.fn 9 (.pr (.fn 1 (.pr Y0 (.int 9))) (.int 12))))))) (.and (.cmp .eql (.var 10) (.fn 116 (.fn 1 (.pr Y0 (.int 10))))) (.and (.cmp .eql Y3 (.fn 116 (.fn 1 (.pr Y0 (.int 11))))) (.and (.cmp .eql (.var 12) (.fn 116 (.fn 1 (.pr Y0 (.int 12))))) (.and (.fn 109 (.pr (.var 15) (.pr (.int 1) (.pr (.fn 1 (.pr Y0 (.int 22))) (.fn 9 (.pr (.fn 1 (.pr Y0 (.int 22))) (.int 12))))))) (.and (.fn 109 (.pr (.var 19) (.pr (.int 1) (.pr (.fn 1 (.pr Y0 (.int 23))) (.fn 9 (.pr (.fn 1 (.pr Y0 (.int 23))) (.int 12))))))) (.and (.cmp .eql (.var 23) (.fn 116 (.fn 1 (.pr Y0 (.int 24))))) (.and (.cmp .eql Y36 (.fn 116 (.fn 1 (.pr Y0 (.int 25))))) (.and (.cmp .eql Y33 (.fn 116 (.fn 1 (.pr Y0 (.int 26))))) (.and (.fn 109 (.pr Y34 (.pr (.int 1) (.pr (.fn 1 (.pr Y0 (.int 29))) (.fn 9 (.pr (.fn 1 (.pr Y0 (.int 29))) (.int 12))))))) (.and (.fn 109 (.pr (.var 31) (.pr (.int 2) (.pr (.fn 1 (.pr Y0 (.int 30))) (.fn 9 (.pr (.fn 1 (.pr Y0 (.int 30))) (.int 5))))))) (.and (.fn 109 (.pr Y72 (.pr (.int 2) (.pr (.fn 1 (.pr Y0 (.int 31))) (.fn 9 (.pr (.fn 1 (.pr Y0 (.int 31))) (.int 5))))))) (.and (.fn 109 (.pr (.var 39) (.pr (.int 4) (.pr (.fn 1 (.pr Y0 (.int 32))) (.fn 0 (.fn 1 (.pr Y0 (.int 32)))))))) Y51)))))))))))))) (.fn 110 (.pr (.fn 3 (.pr (.fn 3 (.pr (.fn 3 (.pr (.fn 3 (.pr (.fn 3 (.pr (.fn 3 (.pr (.fn 3 (.pr (.fn 3 (.pr (.fn 3 (.pr (.fn 3 (.pr (.fn 3 (.pr (.fn 3 (.pr (.fn 23 (.pr (.fn 1 (.pr Y0 (.int 0))) (.fn 23 (.pr (.fn 1 (.pr Y0 (.int 1))) (.fn 23 (.pr (.fn 1 (.pr Y0 (.int 2))) (.fn 23 (.pr (.fn 1 (.pr Y0 (.int 3))) (.fn 23 (.pr (.fn 1 (.pr Y0 (.int 4))) (.fn 23 (.pr (.fn 1 (.pr Y0 (.int 5))) (.fn 23 (.pr (.fn 1 (.pr Y0 (.int 6))) (.fn 23 (.pr (.fn 1 (.pr Y0 (.int 7))) (.fn 10 (.int 0)))))))))))))))))) (.var 2))) (.var 6))) (.fn 23 (.pr (.var 10) (.fn 23 (.pr Y3 (.fn 23 (.pr (.var 12) (.fn 23 (.pr (.fn 1 (.pr Y0 (.int 13))) (.fn 23 (.pr (.fn 1 (.pr Y0 (.int 14))) (.fn 10 (.int 0)))))))))))))) (.fn 23 (.pr (.fn 1 (.pr Y0 (.int 15))) (.fn 23 (.pr (.fn 1 (.pr Y0 (.int 16))) (.fn 23 (.pr (.fn 1 (.pr Y0 (.int 17))) (.fn 23 (.pr (.fn 1 (.pr Y0 (.int 18))) (.fn 23 (.pr (.fn 1 (.pr Y0 (.int 19))) (.fn 23 (.pr (.fn 1 (.pr Y0 (.int 20))) (.fn 23 (.pr (.fn 1 (.pr Y0 (.int 21))) (.fn 10 (.int 0)))))))))))))))))) (.var 15))) (.var 19))) (.fn 23 (.pr (.var 23) (.fn 23 (.pr Y36 (.fn 23 (.pr Y33 (.fn 23 (.pr (.fn 1 (.pr Y0 (.int 27))) (.fn 23 (.pr (.fn 1 (.pr Y0 (.int 28))) (.fn 10 (.int 0)))))))))))))) Y34)) (.var 31))) Y72)) (.var 39))) (.fn 23 (.pr (.fn 9 (.pr (.fn 1 (.pr Y0 (.int 33))) (.int 2))) (.fn 10 (.int 0)))))) (.pr Y0 (.pr (.int 33) (.int 0))))))
theorem fact49 (ρ : Env) : E.B ρ f49 = true := by
  unfold f49
  rw [sm_B_imp]
  simp only [sm_B_and]
  rintro ⟨p0, p1, p2, p3, p4, p5, p6, p7, p8, p9, p10, p11, p12, p13, p14⟩
  exact t110_first p14 p0 p1 (by have q := p2; rwa [sm_B_eql] at q) (by have q := p3; rwa [sm_B_eql] at q) (by have q := p4; rwa [sm_B_eql] at q) p5 p6 (by have q := p7; rwa [sm_B_eql] at q) (by have q := p8; rwa [sm_B_eql] at q) (by have q := p9; rwa [sm_B_eql] at q) p10 p11 p12 p13
def f50 : E := (.imp (.and Y54 (.and (.cmp .eql Y53 (.fn 0 (.var 2))) (.and Y56 (.and (.cmp .eql Y55 (.fn 0 (.var 6))) (.and Y59 (.and (.cmp .eql Y58 (.fn 0 (.var 15))) (.and Y62 (.and (.cmp .eql Y61 (.fn 0 (.var 19))) (.and Y65 (.and Y66 (.and Y68 (.and Y69 (.and Y71 (.and Y73 Y76)))))))))))))) (.cmp .eql (.fn 6 (.pr (.fn 6 (.pr (.fn 6 (.pr (.fn 6 (.pr (.fn 6 (.pr (.fn 6 (.pr (.fn 6 (.pr (.fn 6 (.pr (.fn 6 (.pr (.fn 6 (.pr (.fn 6 (.pr Y53 (.int 8))) Y55)) (.int 12))) Y58)) Y61)) (.int 5))) Y64)) Y67)) Y70)) Y74)) (.int 1))) (.fn 6 (.pr (.fn 6 (.pr (.fn 6 (.pr (.fn 6 (.pr (.fn 6 (.pr (.fn 6 (.pr (.fn 6 (.pr (.fn 6 (.pr (.fn 6 (.pr (.fn 6 (.pr (.fn 6 (.pr (.fn 0 (.var 2)) (.int 8))) (.fn 0 (.var 6)))) (.int 12))) (.fn 0 (.var 15)))) (.fn 0 (.var 19)))) (.int 5))) (.fn 0 Y34))) (.fn 0 (.var 31)))) (.fn 0 Y72))) (.fn 0 (.var 39)))) (.int 1)))))
theorem fact50 (ρ : Env) : E.B ρ f50 = true := by
  unfold f50
  rw [sm_B_imp]
  simp only [sm_B_and]
  rintro ⟨p0, p1, p2, p3, p4, p5, p6, p7, p8, p9, p10, p11, p12, p13, p14⟩
  try simp only [smZ] at *
  omega
def f51 : E := (.imp Y94 (.not (.cmp .lss (.fn 6 (.pr (.fn 6 (.pr (.fn 6 (.pr (.fn 6 (.pr (.fn 6 (.pr (.fn 6 (.pr (.fn 6 (.pr (.fn 6 (.pr (.fn 6 (.pr (.fn 6 (.pr (.fn 6 (.pr Y53 (.int 8))) Y55)) (.int 12))) Y58)) Y61)) (.int 5))) Y64)) Y67)) Y70)) Y74)) (.int 1))) (.int 1))))
theorem fact51 (ρ : Env) : E.B ρ f51 = true := by
  unfold f51
  rw [sm_B_imp]
  simp only [sm_B_and]
  rintro ⟨p0, p1, p2, p3, p4, p5, p6, p7, p8, p9, p10, p11⟩
  have hr0 := @rows_nn ρ (.fn 1 (.pr Y0 (.int 8))) (12)
  have hr1 := @rows_nn ρ (.fn 1 (.pr Y0 (.int 9))) (12)
  have hr2 := @rows_nn ρ (.fn 1 (.pr Y0 (.int 22))) (12)
  have hr3 := @rows_nn ρ (.fn 1 (.pr Y0 (.int 23))) (12)
  have hr4 := @rows_nn ρ (.fn 1 (.pr Y0 (.int 29))) (12)
  have hr5 := @rows_nn ρ (.fn 1 (.pr Y0 (.int 30))) (5)
  have hr6 := @rows_nn ρ (.fn 1 (.pr Y0 (.int 31))) (5)
  have ht0 := @tg_nn ρ (.fn 1 (.pr Y0 (.int 30))) (.fn 9 (.pr (.fn 1 (.pr Y0 (.int 30))) (.int 5)))
  have ht1 := @tg_nn ρ (.fn 1 (.pr Y0 (.int 31))) (.fn 9 (.pr (.fn 1 (.pr Y0 (.int 31))) (.int 5)))
  try simp only [smZ] at *
  have n11 := @fn0_nn ρ Y34
  have n18 := @fn0_nn ρ Y72
  have n20 := @fn0_nn ρ (.fn 1 (.pr Y0 (.int 32)))
  have n21 := @fn0_nn ρ (.var 39)
  omega
def f52 : E := (.imp Y85 (.not (.cmp .lss (.fn 6 (.pr (.int 7000) (.fn 8 (.pr (.int 2) (.int 0))))) (.fn 6 (.pr (.fn 6 (.pr (.fn 6 (.pr (.fn 6 (.pr (.fn 6 (.pr (.fn 6 (.pr (.fn 6 (.pr (.fn 6 (.pr (.fn 6 (.pr (.fn 6 (.pr (.fn 6 (.pr Y53 (.int 8))) Y55)) (.int 12))) Y58)) Y61)) (.int 5))) Y64)) Y67)) Y70)) Y74)) (.int 1))))))
theorem fact52 (ρ : Env) : E.B ρ f52 = true := by
  unfold f52
  rw [sm_B_imp]
  simp only [sm_B_and]
  rintro ⟨p0, p1, p2, p3, p4, p5, p6, p7, p8, p9⟩
  try simp only [smZ] at *
  omega
def f53 : E := (.imp (.and Y52 (.and (.not (.cmp .lss (.var 66) Y95)) (.and (.not (.cmp .lss Y95 (.int 1))) Y96))) (.not (.cmp .lss (.var 66) (.int 0))))
theorem fact53 (ρ : Env) : E.B ρ f53 = true := by
  unfold f53
  rw [sm_B_imp]
  simp only [sm_B_and]
  rintro ⟨p0, p1, p2, p3⟩
  try simp only [smZ] at *
  omega
def f54 : E := (.imp Y106 (.not (.cmp .lss (.int 2147483648) (.fn 6 (.pr Y95 (.int 2))))))
theorem fact54 (ρ : Env) : E.B ρ f54 = true := by
  unfold f54
  rw [sm_B_imp]
  simp only [sm_B_and]
  rintro ⟨p0, p1, p2, p3, p4⟩
  try simp only [smZ] at *
  omega
def f55 : E := (.imp Y112 (.not (.cmp .lss (.int 2147483648) (.fn 6 (.pr Y95 (.int 9))))))
theorem fact55 (ρ : Env) : E.B ρ f55 = true := by
  unfold f55
  rw [sm_B_imp]
  simp only [sm_B_and]
  rintro ⟨p0, p1, p2, p3, p4⟩
  try simp only [smZ] at *
  omega
def f56 : E := (.imp (.and Y98 (.and Y102 Y115)) (.fn 110 (.pr (.fn 3 (.pr (.var 64) (.fn 23 (.pr (.fn 1 (.pr (.fn 1 (.pr Y0 (.int 33))) (.fn 6 (.pr (.fn 8 (.pr Y97 (.int 2))) (.int 0))))) (.fn 23 (.pr (.fn 1 (.pr (.fn 1 (.pr Y0 (.int 33))) (.fn 6 (.pr (.fn 8 (.pr Y97 (.int 2))) (.int 1))))) (.fn 10 (.int 0)))))))) (.pr Y0 (.pr (.int 33) Y116)))))
theorem fact56 (ρ : Env) : E.B ρ f56 = true := by
  unfold f56
  rw [sm_B_imp]
  simp only [sm_B_and]
  rintro ⟨p0, p1, p2, p3, p4⟩
  have g0 : E.I ρ Y116 = E.I ρ (.fn 6 (.pr Y97 (.int 1))) := by
    try simp only [smZ] at *
    obtain ⟨a2, ea2, qa2⟩ := cs_i64 ((E.I ρ Y97) + (1))
    try simp only [ea2] at *
    omega
  exact t110_step33 p4 p2 (by simp only [smZ] at * <;> omega) (by simp only [smZ] at * <;> omega) g0
def f57 : E := (.imp (.and (.not Y98) (.and Y108 Y115)) (.fn 110 (.pr (.fn 3 (.pr (.var 64) (.fn 23 (.pr (.fn 1 (.pr Y0 (.int 34))) (.fn 23 (.pr (.fn 1 (.pr Y0 (.int 35))) (.fn 23 (.pr (.fn 1 (.pr Y0 (.int 36))) (.fn 23 (.pr (.fn 1 (.pr Y0 (.int 37))) (.fn 23 (.pr (.fn 1 (.pr Y0 (.int 38))) (.fn 23 (.pr (.fn 1 (.pr Y0 (.int 39))) (.fn 23 (.pr (.fn 1 (.pr Y0 (.int 40))) (.fn 23 (.pr (.fn 1 (.pr Y0 (.int 41))) (.fn 23 (.pr (.fn 9 (.pr (.fn 1 (.pr Y0 (.int 42))) (.int 3))) (.fn 10 (.int 0)))))))))))))))))))))) (.pr Y0 (.pr (.int 42) (.int 0))))))
theorem fact57 (ρ : Env) : E.B ρ f57 = true := by
  unfold f57
  rw [sm_B_imp]
  simp only [sm_B_and]
  rintro ⟨p0, p1, p2, p3, p4⟩
  have g0 : E.I ρ Y97 = E.I ρ (.fn 9 (.pr (.fn 1 (.pr Y0 (.int 33))) (.int 2))) := by
    try simp only [smZ] at *
    omega
  exact t110_next p4 p2 g0
def f58 : E := (.imp Y117 (.not (.cmp .lss Y116 (.int 0))))
theorem fact58 (ρ : Env) : E.B ρ f58 = true := by
  unfold f58
  rw [sm_B_imp]
  simp only [sm_B_and]
  rintro ⟨p0, p1, p2⟩
  try simp only [smZ] at *
  obtain ⟨a2, ea2, qa2⟩ := cs_i64 ((E.I ρ Y97) + (1))
  try simp only [ea2] at *
  omega
def f59 : E := (.imp Y96 (.cmp .eql (.fn 6 (.pr Y95 (.int 9))) (.fn 6 (.pr (.fn 0 (.var 64)) (.int 9)))))
theorem fact59 (ρ : Env) : E.B ρ f59 = true := by
  unfold f59
  rw [sm_B_imp]
  intro p0
  try simp only [smZ] at *
  omega
def f60 : E := (.imp Y117 (.not (.cmp .lss (.fn 9 (.pr (.fn 1 (.pr Y0 (.int 33))) (.int 2))) Y116)))
theorem fact60 (ρ : Env) : E.B ρ f60 = true := by
  unfold f60
  rw [sm_B_imp]
  simp only [sm_B_and]
  rintro ⟨p0, p1, p2⟩
  try simp only [smZ] at *
  obtain ⟨a2, ea2, qa2⟩ := cs_i64 ((E.I ρ Y97) + (1))
  try simp only [ea2] at *
  omega
def f61 : E := (.imp Y112 (.not (.cmp .lss (.fn 6 (.pr (.int 8000) (.fn 8 (.pr (.int 3) (.int 0))))) (.fn 6 (.pr Y95 (.int 9))))))
theorem fact61 (ρ : Env) : E.B ρ f61 = true := by
  unfold f61
  rw [sm_B_imp]
  simp only [sm_B_and]
  rintro ⟨p0, p1, p2, p3, p4⟩
  try simp only [smZ] at *
  omega
def f62 : E := (.imp Y96 (.cmp .eql (.fn 6 (.pr Y95 (.int 2))) (.fn 6 (.pr (.fn 0 (.var 64)) (.int 2)))))
theorem fact62 (ρ : Env) : E.B ρ f62 = true := by
  unfold f62
  rw [sm_B_imp]
  intro p0
  try simp only [smZ] at *
  omega
def f63 : E := (.imp (.and Y52 (.and (.not (.cmp .lss (.var 98) Y118)) (.and (.not (.cmp .lss Y118 (.int 1))) Y119))) (.not (.cmp .lss (.var 98) (.int 0))))
theorem fact63 (ρ : Env) : E.B ρ f63 = true := by
  unfold f63
  rw [sm_B_imp]
  simp only [sm_B_and]
  rintro ⟨p0, p1, p2, p3⟩
  try simp only [smZ] at *
  omega
def f64 : E := (.imp (.and (.not Y121) (.and Y52 (.and Y123 Y125))) (.fn 106 (.pr (.var 96) Y0)))
theorem fact64 (ρ : Env) : E.B ρ f64 = true := by
  unfold f64
  rw [sm_B_imp]
  simp only [sm_B_and]
  rintro ⟨p0, p1, p2, p3⟩
  have g0 : E.I ρ Y120 = E.I ρ (.fn 9 (.pr (.fn 1 (.pr Y0 (.int 42))) (.int 3))) := by
    try simp only [smZ] at *
    omega
  exact t106_end p3 g0
def f65 : E := (.imp Y106 (.not (.cmp .lss (.fn 6 (.pr (.int 7000) (.fn 8 (.pr (.int 2) Y116)))) (.fn 6 (.pr Y95 (.int 2))))))
theorem fact65 (ρ : Env) : E.B ρ f65 = true := by
  unfold f65
  rw [sm_B_imp]
  simp only [sm_B_and]
  rintro ⟨p0, p1, p2, p3, p4⟩
  try simp only [smZ] at *
  obtain ⟨a4, ea4, qa4⟩ := cs_i64 ((E.I ρ Y97) + (1))
  try simp only [ea4] at *
  omega
def f66 : E := (.imp Y133 (.not (.cmp .lss (.int 2147483648) (.fn 6 (.pr Y118 (.int 3))))))
theorem fact66 (ρ : Env) : E.B ρ f66 = true := by
  unfold f66
  rw [sm_B_imp]
  simp only [sm_B_and]
  rintro ⟨p0, p1, p2, p3, p4⟩
  try simp only [smZ] at *
  omega
def f67 : E := (.imp (.and Y52 (.and (.not Y121) (.and Y127 (.and Y119 Y123)))) (.not (.cmp .lss (.int 10000) Y118)))
theorem fact67 (ρ : Env) : E.B ρ f67 = true := by
  unfold f67
  rw [sm_B_imp]
  simp only [sm_B_and]
  rintro ⟨p0, p1, p2, p3, p4⟩
  try simp only [smZ] at *
  omega
def f68 : E := (.imp Y117 (.cmp .lss (.fn 7 (.pr (.fn 9 (.pr (.fn 1 (.pr Y0 (.int 33))) (.int 2))) Y116)) (.fn 7 (.pr (.fn 9 (.pr (.fn 1 (.pr Y0 (.int 33))) (.int 2))) Y97))))
theorem fact68 (ρ : Env) : E.B ρ f68 = true := by
  unfold f68
  rw [sm_B_imp]
  simp only [sm_B_and]
  rintro ⟨p0, p1, p2⟩
  try simp only [smZ] at *
  obtain ⟨a2, ea2, qa2⟩ := cs_i64 ((E.I ρ Y97) + (1))
  try simp only [ea2] at *
  omega
def f69 : E := (.imp (.and Y121 (.and Y52 (.and Y51 (.and Y129 Y125)))) (.fn 110 (.pr (.fn 3 (.pr (.var 96) (.fn 23 (.pr (.fn 1 (.pr (.fn 1 (.pr Y0 (.int 42))) (.fn 6 (.pr (.fn 8 (.pr Y120 (.int 3))) (.int 0))))) (.fn 23 (.pr (.fn 1 (.pr (.fn 1 (.pr Y0 (.int 42))) (.fn 6 (.pr (.fn 8 (.pr Y120 (.int 3))) (.int 1))))) (.fn 23 (.pr (.fn 1 (.pr (.fn 1 (.pr Y0 (.int 42))) (.fn 6 (.pr (.fn 8 (.pr Y120 (.int 3))) (.int 2))))) (.fn 10 (.int 0)))))))))) (.pr Y0 (.pr (.int 42) Y134)))))
theorem fact69 (ρ : Env) : E.B ρ f69 = true := by
  unfold f69
  rw [sm_B_imp]
  simp only [sm_B_and]
  rintro ⟨p0, p1, p2, p3, p4⟩
  have g0 : E.I ρ Y134 = E.I ρ (.fn 6 (.pr Y120 (.int 1))) := by
    try simp only [smZ] at *
    obtain ⟨a2, ea2, qa2⟩ := cs_i64 ((E.I ρ Y120) + (1))
    try simp only [ea2] at *
    omega
  exact t110_step42 p2 p4 (by simp only [smZ] at * <;> omega) (by simp only [smZ] at * <;> omega) g0
def f70 : E := (.imp Y117 (.not (.cmp .lss (.fn 7 (.pr (.fn 9 (.pr (.fn 1 (.pr Y0 (.int 33))) (.int 2))) Y116)) (.int 0))))
theorem fact70 (ρ : Env) : E.B ρ f70 = true := by
  unfold f70
  rw [sm_B_imp]
  simp only [sm_B_and]
  rintro ⟨p0, p1, p2⟩
  try simp only [smZ] at *
  obtain ⟨a2, ea2, qa2⟩ := cs_i64 ((E.I ρ Y97) + (1))
  try simp only [ea2] at *
  omega
def f71 : E := (.imp Y135 (.not (.cmp .lss Y134 (.int 0))))
theorem fact71 (ρ : Env) : E.B ρ f71 = true := by
  unfold f71
  rw [sm_B_imp]
  simp only [sm_B_and]
  rintro ⟨p0, p1, p2⟩
  try simp only [smZ] at *
  obtain ⟨a2, ea2, qa2⟩ := cs_i64 ((E.I ρ Y120) + (1))
  try simp only [ea2] at *
  omega
def f72 : E := (.imp Y135 (.not (.cmp .lss (.fn 9 (.pr (.fn 1 (.pr Y0 (.int 42))) (.int 3))) Y134)))
theorem fact72 (ρ : Env) : E.B ρ f72 = true := by
  unfold f72
  rw [sm_B_imp]
  simp only [sm_B_and]
  rintro ⟨p0, p1, p2⟩
  try simp only [smZ] at *
  obtain ⟨a2, ea2, qa2⟩ := cs_i64 ((E.I ρ Y120) + (1))
  try simp only [ea2] at *
  omega
def f73 : E := (.imp Y119 (.cmp .eql (.fn 6 (.pr Y118 (.int 3))) (.fn 6 (.pr (.fn 0 (.var 96)) (.int 3)))))
theorem fact73 (ρ : Env) : E.B ρ f73 = true := by
  unfold f73
  rw [sm_B_imp]
  intro p0
  try simp only [smZ] at *
  omega
def f74 : E := (.imp Y133 (.not (.cmp .lss (.fn 6 (.pr (.int 8000) (.fn 8 (.pr (.int 3) Y134)))) (.fn 6 (.pr Y118 (.int 3))))))
theorem fact74 (ρ : Env) : E.B ρ f74 = true := by
  unfold f74
  rw [sm_B_imp]
  simp only [sm_B_and]
  rintro ⟨p0, p1, p2, p3, p4⟩
  try simp only [smZ] at *
  obtain ⟨a4, ea4, qa4⟩ := cs_i64 ((E.I ρ Y120) + (1))
  try simp only [ea4] at *
  omega
def f75 : E := (.imp Y135 (.cmp .lss (.fn 7 (.pr (.fn 9 (.pr (.fn 1 (.pr Y0 (.int 42))) (.int 3))) Y134)) (.fn 7 (.pr (.fn 9 (.pr (.fn 1 (.pr Y0 (.int 42))) (.int 3))) Y120))))
theorem fact75 (ρ : Env) : E.B ρ f75 = true := by
  unfold f75
  rw [sm_B_imp]
  simp only [sm_B_and]
  rintro ⟨p0, p1, p2⟩
  try simp only [smZ] at *
  obtain ⟨a2, ea2, qa2⟩ := cs_i64 ((E.I ρ Y120) + (1))
  try simp only [ea2] at *
  omega
def f76 : E := (.imp Y135 (.not (.cmp .lss (.fn 7 (.pr (.fn 9 (.pr (.fn 1 (.pr Y0 (.int 42))) (.int 3))) Y134)) (.int 0))))
theorem fact76 (ρ : Env) : E.B ρ f76 = true := by
  unfold f76
  rw [sm_B_imp]
  simp only [sm_B_and]
  rintro ⟨p0, p1, p2⟩
  try simp only [smZ] at *
  obtain ⟨a2, ea2, qa2⟩ := cs_i64 ((E.I ρ Y120) + (1))
  try simp only [ea2] at *
  omega
def facts : List E := [f0, f1, f2, f3, f4, f5, f6, f7, f8, f9, f10, f11, f12, f13, f14, f15, f16, f17, f18, f19, f20, f21, f22, f23, f24, f25, f26, f27, f28, f29, f30, f31, f32, f33, f34, f35, f36, f37, f38, f39, f40, f41, f42, f43, f44, f45, f46, f47, f48, f49, f50, f51, f52, f53, f54, f55, f56, f57, f58, f59, f60, f61, f62, f63, f64, f65, f66, f67, f68, f69, f70, f71, f72, f73, f74, f75, f76]
theorem facts_ok : ∀ e ∈ facts, ∀ ρ : Env, E.B ρ e = true := (all_cons fact0 (all_cons fact1 (all_cons fact2 (all_cons fact3 (all_cons fact4 (all_cons fact5 (all_cons fact6 (all_cons fact7 (all_cons fact8 (all_cons fact9 (all_cons fact10 (all_cons fact11 (all_cons fact12 (all_cons fact13 (all_cons fact14 (all_cons fact15 (all_cons fact16 (all_cons fact17 (all_cons fact18 (all_cons fact19 (all_cons fact20 (all_cons fact21 (all_cons fact22 (all_cons fact23 (all_cons fact24 (all_cons fact25 (all_cons fact26 (all_cons fact27 (all_cons fact28 (all_cons fact29 (all_cons fact30 (all_cons fact31 (all_cons fact32 (all_cons fact33 (all_cons fact34 (all_cons fact35 (all_cons fact36 (all_cons fact37 (all_cons fact38 (all_cons fact39 (all_cons fact40 (all_cons fact41 (all_cons fact42 (all_cons fact43 (all_cons fact44 (all_cons fact45 (all_cons fact46 (all_cons fact47 (all_cons fact48 (all_cons fact49 (all_cons fact50 (all_cons fact51 (all_cons fact52 (all_cons fact53 (all_cons fact54 (all_cons fact55 (all_cons fact56 (all_cons fact57 (all_cons fact58 (all_cons fact59 (all_cons fact60 (all_cons fact61 (all_cons fact62 (all_cons fact63 (all_cons fact64 (all_cons fact65 (all_cons fact66 (all_cons fact67 (all_cons fact68 (all_cons fact69 (all_cons fact70 (all_cons fact71 (all_cons fact72 (all_cons fact73 (all_cons fact74 (all_cons fact75 (all_cons fact76 all_nil)))))))))))))))))))))))))))))))))))))))))))))))))))))))))))))))))))))))))))))
end p13
set_option maxRecDepth 100000 in
theorem spec13_0 : NatOk Try.prog (specNat (spFl)) :=
  spec_of_check good (facts := p13.facts) p13.facts_ok (anns := annFl) (plainAnns_ok _ (by kernel_rfl)) (nats := natl14) natl14_ok (n := 3000) (by kernel_rfl)
def natl15 : List Nat1 := specNat (spFl) :: natl14
theorem natl15_ok : ∀ x ∈ natl15, NatOk Try.prog x := by
  intro x hx
  rcases List.mem_cons.1 hx with rfl | hx
  · exact spec13_0
  exact natl14_ok x hx

end
end Go.Proofs.Ytoicbojdnjcmiaa.viewEncodes
