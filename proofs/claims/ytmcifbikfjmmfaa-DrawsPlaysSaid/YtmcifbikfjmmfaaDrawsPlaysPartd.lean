/-
  DrawsPlays: contracts of functions, part 4.
-/
import Derived.Test.YtmcifbikfjmmfaaRows
import Derived.Test.YtmcifbikfjmmfaaNat
import Derived.WalkKit
import Derived.ProofKit
import Derived.OpenShut
import Derived.ChangeOld
import Derived.Below
import Derived.KernelRfl
import Derived.Lib.SmallJoins
import Derived.Test.YtmcifbikfjmmfaaDrawsPlaysPartc
namespace Go.Proofs.Ytmcifbikfjmmfaa.drawsPlays
open Go.ChangeShapes Go.WideShapes Go.ChangeAt Go.RowKit
open Go.SX
set_option linter.unusedVariables false
set_option linter.unusedSimpArgs false
set_option maxRecDepth 100000
noncomputable abbrev Y0 : E := .var 3
noncomputable abbrev Y1 : E := .var 2
noncomputable abbrev Y2 : E := .fn 132 (.pr Y1 Y0)
noncomputable abbrev Y3 : E := .cmp .lss (.int 65536) Y0
noncomputable abbrev Y4 : E := .cmp .lss Y0 (.int 0)
noncomputable abbrev Y5 : E := .not Y4
noncomputable abbrev Y6 : E := .not Y2
noncomputable abbrev Y7 : E := .fn 133 Y0
noncomputable abbrev Y8 : E := .var 0
noncomputable abbrev Y9 : E := .pr Y0 Y8
noncomputable abbrev Y10 : E := .pr Y1 Y9
noncomputable abbrev Y11 : E := .var 11
noncomputable abbrev Y12 : E := .var 13
noncomputable abbrev Y13 : E := .fn 111 (.pr Y11 (.pr Y8 Y12))
noncomputable abbrev Y14 : E := .fn 131 Y8
noncomputable abbrev Y15 : E := .cmp .lss Y12 Y1
noncomputable abbrev Y16 : E := .var 10
noncomputable abbrev Y17 : E := .pr Y12 Y10
noncomputable abbrev Y18 : E := .pr Y16 Y17
noncomputable abbrev Y19 : E := .fn 122 Y18
noncomputable abbrev Y20 : E := .not (.cmp .lss Y1 Y12)
noncomputable abbrev Y21 : E := .cmp .eql (.fn 0 Y16) Y0
noncomputable abbrev Y22 : E := .cmp .lss Y12 (.int 0)
noncomputable abbrev Y23 : E := .not Y22
noncomputable abbrev Y24 : E := .not (.cmp .lss (.fn 0 Y8) Y1)
noncomputable abbrev Y25 : E := .cmp .lss (.int 300) (.fn 0 Y8)
noncomputable abbrev Y26 : E := .not Y25
noncomputable abbrev Y27 : E := .var 1
noncomputable abbrev Y28 : E := .cmp .eql (.var 12) (.fn 6 (.pr Y27 Y12))
noncomputable abbrev Y29 : E := .cmp .lss Y27 (.int 0)
noncomputable abbrev Y30 : E := .not Y29
noncomputable abbrev Y31 : E := .cmp .lss (.int 300) (.fn 6 (.pr Y27 (.fn 0 Y8)))
noncomputable abbrev Y32 : E := .not Y31
noncomputable abbrev Y33 : E := .and Y21 Y23
noncomputable abbrev Y34 : E := .and Y15 Y33
noncomputable abbrev Y35 : E := .ar .sub .i64 Y0 Y12
noncomputable abbrev Y36 : E := .var 32
noncomputable abbrev Y37 : E := .var 35
noncomputable abbrev Y38 : E := .pr (.fn 10 (.int 0)) (.pr Y36 Y37)
noncomputable abbrev Y39 : E := .fn 124 Y38
noncomputable abbrev Y40 : E := .fn 111 (.pr (.var 33) (.pr Y8 Y1))
noncomputable abbrev Y41 : E := .fn 122 (.pr Y36 (.pr Y1 Y10))
noncomputable abbrev Y42 : E := .cmp .lss Y37 Y0
noncomputable abbrev Y43 : E := .cmp .lss Y37 (.int 0)
noncomputable abbrev Y44 : E := .not Y43
noncomputable abbrev Y45 : E := .cmp .eql (.fn 0 Y36) Y0
noncomputable abbrev Y46 : E := .and Y44 Y45
noncomputable abbrev Y47 : E := .and Y42 Y46
noncomputable abbrev Y48 : E := .and Y7 Y47
noncomputable abbrev Y49 : E := .and Y6 Y48
noncomputable abbrev Y50 : E := .and Y41 Y49
noncomputable abbrev Y51 : E := .and Y40 Y50
noncomputable abbrev Y52 : E := .and Y39 Y51
noncomputable abbrev Y53 : E := .ar .add .i64 Y37 (.int 1)
noncomputable abbrev Y54 : E := .cmp .lss Y0 Y37
noncomputable abbrev Y55 : E := .not Y54
noncomputable abbrev Y56 : E := .not Y42
noncomputable abbrev Y57 : E := .cmp .eql (.var 34) (.fn 6 (.pr Y27 Y1))
noncomputable abbrev Y58 : E := .and Y6 (.and Y7 (.and Y56 Y57))
noncomputable abbrev Y59 : E := .and Y45 Y58
noncomputable abbrev Y60 : E := .and Y41 Y59
noncomputable abbrev Y61 : E := .and Y40 Y60
noncomputable abbrev Y62 : E := .and Y55 Y61
noncomputable abbrev Y63 : E := .and Y39 Y62
noncomputable abbrev Y64 : E := .var 36
noncomputable abbrev Y65 : E := .fn 124 (.pr Y64 (.pr Y36 Y37))
noncomputable abbrev Y66 : E := .var 37
noncomputable abbrev Y67 : E := .cmp .eql Y66 (.fn 0 Y64)
noncomputable abbrev Y68 : E := .cmp .lss (.int 300) Y66
noncomputable abbrev Y69 : E := .not Y68
noncomputable abbrev Y70 : E := .cmp .lss Y66 (.int 1)
noncomputable abbrev Y71 : E := .not Y70
noncomputable abbrev Y72 : E := .and Y69 Y71
noncomputable abbrev Y73 : E := .and Y67 Y72
noncomputable abbrev Y74 : E := .and Y65 Y51
noncomputable abbrev Y75 : E := .and Y7 Y39
noncomputable abbrev Y76 : E := .and Y6 Y75
noncomputable abbrev Y77 : E := .and Y45 Y76
noncomputable abbrev Y78 : E := .and Y41 Y77
noncomputable abbrev Y79 : E := .and Y40 Y78
noncomputable abbrev Y80 : E := .and Y45 (.and Y6 Y7)
noncomputable abbrev Y81 : E := .and Y41 Y80
noncomputable abbrev Y82 : E := .and Y40 Y81
noncomputable abbrev Y83 : E := .fn 111 (.pr (.var 14) (.pr Y11 (.int 1)))
noncomputable abbrev Y84 : E := .fn 111 (.pr (.var 14) (.pr Y8 (.fn 6 (.pr Y12 (.int 1)))))
noncomputable abbrev Y85 : E := .and Y44 Y79
noncomputable abbrev Y86 : E := .and Y44 Y82
noncomputable abbrev Y87 : E := .and Y65 Y86
noncomputable abbrev Y88 : E := .cmp .eql (.var 15) (.fn 6 (.pr (.var 12) (.int 1)))
noncomputable abbrev Y89 : E := .cmp .eql (.var 15) (.fn 6 (.pr Y27 (.fn 6 (.pr Y12 (.int 1)))))
noncomputable abbrev Y90 : E := .cmp .lss (.fn 7 (.pr Y0 Y53)) (.fn 7 (.pr Y0 Y37))
noncomputable abbrev Y91 : E := .and Y19 Y33
noncomputable abbrev Y92 : E := .and Y15 Y91
noncomputable abbrev Y93 : E := .ar .rem .u64 (.fn 1 (.pr Y11 (.int 0))) (.wr .u64 Y35)
noncomputable abbrev Y94 : E := .wr .i64 Y93
noncomputable abbrev Y95 : E := .wr .u64 (.fn 7 (.pr Y0 Y12))
noncomputable abbrev Y96 : E := .ar .rem .u64 (.fn 1 (.pr Y8 Y12)) Y95
noncomputable abbrev Y97 : E := .wr .i64 Y96
noncomputable abbrev Y98 : E := .cmp .lss (.fn 7 (.pr Y0 Y53)) (.int 0)
noncomputable abbrev Y99 : E := .not Y98
noncomputable abbrev Y100 : E := .var 18
noncomputable abbrev Y101 : E := .var 19
noncomputable abbrev Y102 : E := .pr Y101 Y97
noncomputable abbrev Y103 : E := .fn 123 (.pr Y16 (.pr Y100 Y102))
noncomputable abbrev Y104 : E := .cmp .lss Y100 Y0
noncomputable abbrev Y105 : E := .cmp .lss Y100 (.int 0)
noncomputable abbrev Y106 : E := .not Y105
noncomputable abbrev Y107 : E := .ar .add .i64 Y100 (.int 1)
noncomputable abbrev Y108 : E := .and Y15 Y23
noncomputable abbrev Y109 : E := .and Y103 (.and Y84 (.and Y6 (.and Y7 (.and Y14 (.and Y24 (.and Y32 (.and Y30 (.and Y89 Y108))))))))
noncomputable abbrev Y110 : E := .ar .add .i64 Y12 (.int 1)
noncomputable abbrev Y111 : E := .and Y106 (.and Y84 Y21)
noncomputable abbrev Y112 : E := .and Y103 Y111
noncomputable abbrev Y113 : E := .and Y14 Y112
noncomputable abbrev Y114 : E := .and Y7 Y113
noncomputable abbrev Y115 : E := .and Y6 Y114
noncomputable abbrev Y116 : E := .and Y106 Y21
noncomputable abbrev Y117 : E := .and Y104 Y116
noncomputable abbrev Y118 : E := .and Y14 Y117
noncomputable abbrev Y119 : E := .and Y7 Y118
noncomputable abbrev Y120 : E := .and Y6 Y119
noncomputable abbrev Y121 : E := .and Y84 Y120
noncomputable abbrev Y122 : E := .and Y103 Y121
namespace p9
noncomputable def f0 : E := (.imp (.cmp .lss Y0 Y1) Y2)
theorem fact0 (ρ : Env) : E.B ρ f0 = true := by
  unfold f0
  rw [sm_B_imp]
  intro p0
  rw [z132]
  simp only [smA] at *
  omega
noncomputable def f1 : E := (.imp (.cmp .lss Y1 (.int 0)) Y2)
theorem fact1 (ρ : Env) : E.B ρ f1 = true := by
  unfold f1
  rw [sm_B_imp]
  intro p0
  rw [z132]
  simp only [smA] at *
  omega
noncomputable def f2 : E := (.imp Y3 Y2)
theorem fact2 (ρ : Env) : E.B ρ f2 = true := by
  unfold f2
  rw [sm_B_imp]
  intro p0
  rw [z132]
  simp only [smA] at *
  omega
noncomputable def f3 : E := (.imp Y4 Y2)
theorem fact3 (ρ : Env) : E.B ρ f3 = true := by
  unfold f3
  rw [sm_B_imp]
  intro p0
  rw [z132]
  simp only [smA] at *
  omega
noncomputable def f4 : E := (.imp (.and Y5 (.and (.not Y3) (.and (.not (.cmp .lss Y1 (.int 0))) (.not (.cmp .lss Y0 Y1))))) Y6)
theorem fact4 (ρ : Env) : E.B ρ f4 = true := by
  unfold f4
  rw [sm_B_imp]
  simp only [sm_B_and]
  rintro ⟨p0, p1, p2, p3⟩
  rw [sm_B_not]
  rw [z132]
  simp only [smA] at *
  omega
noncomputable def f5 : E := (.imp (.and Y7 (.and Y5 (.not Y3))) (.cmp .eql (.mx Y0 (.int 0)) Y0))
theorem fact5 (ρ : Env) : E.B ρ f5 = true := by
  unfold f5
  rw [sm_B_imp]
  simp only [sm_B_and]
  rintro ⟨p0, p1, p2⟩
  have hb0 := t133_of p0
  try simp only [smA, smW] at *
  omega
noncomputable def f6 : E := (.imp Y5 (.fn 122 (.pr (.fn 5 (.pr Y0 (.bool false))) (.pr (.int 0) Y10))))
theorem fact6 (ρ : Env) : E.B ρ f6 = true := by
  unfold f6
  rw [sm_B_imp]
  intro p0
  have g0 : E.I ρ (.int 0) = E.I ρ (.int 0) := rfl
  exact t122_start g0
noncomputable def f7 : E := (.imp Y7 (.fn 111 (.pr Y8 (.pr Y8 (.int 0)))))
theorem fact7 (ρ : Env) : E.B ρ f7 = true := by
  unfold f7
  rw [sm_B_imp]
  intro p0
  have g0 : (0) ≤ (0) := by
    have hb0 := t133_of p0
    try simp only [smA, smW] at *
    omega
  exact t111_self (by (try simp only [sm_I_int]); omega)
noncomputable def f8 : E := (.imp (.and Y13 Y14) (.fn 131 Y11))
theorem fact8 (ρ : Env) : E.B ρ f8 = true := by
  unfold f8
  rw [sm_B_imp]
  simp only [sm_B_and]
  rintro ⟨p0, p1⟩
  exact (t131_drop p0 p1)
noncomputable def f9 : E := (.imp (.and Y13 (.and (.not Y15) (.and Y6 (.and Y7 (.and Y19 Y20))))) (.fn 122 (.pr Y16 (.pr Y1 Y10))))
theorem fact9 (ρ : Env) : E.B ρ f9 = true := by
  unfold f9
  rw [sm_B_imp]
  simp only [sm_B_and]
  rintro ⟨p0, p1, p2, p3, p4, p5⟩
  have g0 : E.I ρ Y1 = E.I ρ Y12 := by
    have hl0 := t111_len p0
    have hb2 := t132_not p2
    have hb3 := t133_of p3
    try simp only [smA, smW] at *
    omega
  exact t122_eq p4 g0
noncomputable def f10 : E := (.imp (.and Y13 (.and Y21 (.and Y23 (.and Y24 (.and Y6 (.and Y7 (.and Y15 Y26))))))) (.not (.cmp .lss (.fn 0 Y11) (.int 1))))
theorem fact10 (ρ : Env) : E.B ρ f10 = true := by
  unfold f10
  rw [sm_B_imp]
  simp only [sm_B_and]
  rintro ⟨p0, p1, p2, p3, p4, p5, p6, p7⟩
  have hl0 := t111_len p0
  have hb4 := t132_not p4
  have hb5 := t133_of p5
  try simp only [smA, smW] at *
  have n1 := fn0_nn (ρ := ρ) Y16
  have n4 := fn0_nn (ρ := ρ) Y8
  have n6 := fn0_nn (ρ := ρ) Y11
  omega
noncomputable def f11 : E := (.imp (.and Y13 (.and (.not Y15) (.and Y6 (.and Y7 Y20)))) (.fn 111 (.pr Y11 (.pr Y8 Y1))))
theorem fact11 (ρ : Env) : E.B ρ f11 = true := by
  unfold f11
  rw [sm_B_imp]
  simp only [sm_B_and]
  rintro ⟨p0, p1, p2, p3, p4⟩
  have g0 : E.I ρ Y1 = E.I ρ Y12 := by
    have hl0 := t111_len p0
    have hb2 := t132_not p2
    have hb3 := t133_of p3
    try simp only [smA, smW] at *
    omega
  exact t111_eq p0 g0
noncomputable def f12 : E := (.imp (.and Y13 (.and Y21 (.and Y6 (.and Y7 Y26)))) (.not (.cmp .lss (.int 300) (.fn 0 Y11))))
theorem fact12 (ρ : Env) : E.B ρ f12 = true := by
  unfold f12
  rw [sm_B_imp]
  simp only [sm_B_and]
  rintro ⟨p0, p1, p2, p3, p4⟩
  have hl0 := t111_len p0
  have hb2 := t132_not p2
  have hb3 := t133_of p3
  try simp only [smA, smW] at *
  have n1 := fn0_nn (ρ := ρ) Y16
  have n3 := fn0_nn (ρ := ρ) Y8
  have n4 := fn0_nn (ρ := ρ) Y11
  omega
noncomputable def f13 : E := (.imp (.and Y28 (.and Y13 (.and Y6 (.and Y7 (.and (.not Y15) Y20))))) (.cmp .eql (.var 12) (.fn 6 (.pr Y27 Y1))))
theorem fact13 (ρ : Env) : E.B ρ f13 = true := by
  unfold f13
  rw [sm_B_imp]
  simp only [sm_B_and]
  rintro ⟨p0, p1, p2, p3, p4, p5⟩
  have hl1 := t111_len p1
  have hb2 := t132_not p2
  have hb3 := t133_of p3
  try simp only [smA, smW] at *
  omega
noncomputable def f14 : E := (.imp (.and Y28 (.and Y13 (.and Y23 (.and Y6 Y30)))) (.not (.cmp .lss (.var 12) (.int 0))))
theorem fact14 (ρ : Env) : E.B ρ f14 = true := by
  unfold f14
  rw [sm_B_imp]
  simp only [sm_B_and]
  rintro ⟨p0, p1, p2, p3, p4⟩
  have hl1 := t111_len p1
  have hb3 := t132_not p3
  try simp only [smA, smW] at *
  omega
noncomputable def f15 : E := (.imp (.and Y13 (.and Y6 Y21)) Y5)
theorem fact15 (ρ : Env) : E.B ρ f15 = true := by
  unfold f15
  rw [sm_B_imp]
  simp only [sm_B_and]
  rintro ⟨p0, p1, p2⟩
  have hl0 := t111_len p0
  have hb1 := t132_not p1
  try simp only [smA, smW] at *
  have n1 := fn0_nn (ρ := ρ) Y16
  omega
noncomputable def f16 : E := (.imp (.and Y28 (.and Y13 (.and Y24 (.and Y6 (.and Y7 (.and Y15 Y32)))))) (.not (.cmp .lss (.int 300) (.var 12))))
theorem fact16 (ρ : Env) : E.B ρ f16 = true := by
  unfold f16
  rw [sm_B_imp]
  simp only [sm_B_and]
  rintro ⟨p0, p1, p2, p3, p4, p5, p6⟩
  have hl1 := t111_len p1
  have hb3 := t132_not p3
  have hb4 := t133_of p4
  try simp only [smA, smW] at *
  have n4 := fn0_nn (ρ := ρ) Y8
  omega
noncomputable def f17 : E := (.imp Y13 (.fn 124 (.pr (.fn 10 (.int 0)) (.pr Y16 (.int 0)))))
theorem fact17 (ρ : Env) : E.B ρ f17 = true := by
  unfold f17
  rw [sm_B_imp]
  intro p0
  have g0 : (0) ≤ (0) := by
    have hl0 := t111_len p0
    try simp only [smA, smW] at *
    omega
  exact t124_zero (by (try simp only [sm_I_int]); omega)
noncomputable def f18 : E := (.imp (.and Y13 (.and Y6 (.and Y7 Y34))) (.not (.cmp .lss Y35 (.int 1))))
theorem fact18 (ρ : Env) : E.B ρ f18 = true := by
  unfold f18
  rw [sm_B_imp]
  simp only [sm_B_and]
  rintro ⟨p0, p1, p2, p3, p4, p5⟩
  have hl0 := t111_len p0
  have hb1 := t132_not p1
  have hb2 := t133_of p2
  try simp only [smA, smW] at *
  have n3 := fn0_nn (ρ := ρ) Y16
  obtain ⟨a4, ea4, qa4⟩ := cs_i64 ((E.I ρ Y0) - (E.I ρ Y12))
  try simp only [ea4] at *
  omega
noncomputable def f19 : E := (.imp Y52 (.not (.cmp .lss Y53 (.int 0))))
theorem fact19 (ρ : Env) : E.B ρ f19 = true := by
  unfold f19
  rw [sm_B_imp]
  simp only [sm_B_and]
  rintro ⟨p0, p1, p2, p3, p4, p5, p6, p7⟩
  have hl1 := t111_len p1
  have hb3 := t132_not p3
  have hb4 := t133_of p4
  have ht0_2 := t124_len p0 p2
  have hz0 : E.I ρ (.fn 0 (.fn 10 (.int 0))) = 0 := rfl
  try simp only [smA, smW] at *
  have n3 := fn0_nn (ρ := ρ) Y36
  obtain ⟨a3, ea3, qa3⟩ := cs_i64 ((E.I ρ Y37) + (1))
  try simp only [ea3] at *
  omega
noncomputable def f20 : E := (.imp Y63 (.cmp .eql Y1 (.int 0)))
theorem fact20 (ρ : Env) : E.B ρ f20 = true := by
  unfold f20
  rw [sm_B_imp]
  simp only [sm_B_and]
  rintro ⟨p0, p1, p2, p3, p4, p5, p6, p7, p8⟩
  have hl2 := t111_len p2
  have hb5 := t132_not p5
  have hb6 := t133_of p6
  have ht0_3 := t124_len p0 p3
  have hz0 : E.I ρ (.fn 0 (.fn 10 (.int 0))) = 0 := rfl
  try simp only [smA, smW] at *
  have n3 := fn0_nn (ρ := ρ) Y36
  omega
noncomputable def f21 : E := (.imp (.and Y65 (.and Y40 (.and Y41 (.and Y6 (.and Y7 (.and (.not (.cmp .lss (.var 38) Y66)) Y73)))))) (.not (.cmp .lss (.var 38) (.int 0))))
theorem fact21 (ρ : Env) : E.B ρ f21 = true := by
  unfold f21
  rw [sm_B_imp]
  simp only [sm_B_and]
  rintro ⟨p0, p1, p2, p3, p4, p5, p6, p7, p8⟩
  have hl1 := t111_len p1
  have hb3 := t132_not p3
  have hb4 := t133_of p4
  have ht0_2 := t124_len p0 p2
  try simp only [smA, smW] at *
  have n3 := fn0_nn (ρ := ρ) Y64
  omega
noncomputable def f22 : E := (.imp Y74 (.not (.cmp .lss Y53 (.int 0))))
theorem fact22 (ρ : Env) : E.B ρ f22 = true := by
  unfold f22
  rw [sm_B_imp]
  simp only [sm_B_and]
  rintro ⟨p0, p1, p2, p3, p4, p5, p6, p7⟩
  have hl1 := t111_len p1
  have hb3 := t132_not p3
  have hb4 := t133_of p4
  have ht0_2 := t124_len p0 p2
  try simp only [smA, smW] at *
  have n3 := fn0_nn (ρ := ρ) Y36
  obtain ⟨a3, ea3, qa3⟩ := cs_i64 ((E.I ρ Y37) + (1))
  try simp only [ea3] at *
  omega
noncomputable def f23 : E := (.imp (.and Y65 (.and Y67 (.and Y71 (.and Y55 (.and Y40 (.and Y41 (.and Y45 (.and Y6 (.and Y7 (.and Y56 (.and Y69 Y57))))))))))) (.not (.cmp .lss Y1 (.int 1))))
theorem fact23 (ρ : Env) : E.B ρ f23 = true := by
  unfold f23
  rw [sm_B_imp]
  simp only [sm_B_and]
  rintro ⟨p0, p1, p2, p3, p4, p5, p6, p7, p8, p9, p10, p11⟩
  have hl4 := t111_len p4
  have hb7 := t132_not p7
  have hb8 := t133_of p8
  have ht0_5 := t124_len p0 p5
  try simp only [smA, smW] at *
  have n2 := fn0_nn (ρ := ρ) Y64
  have n5 := fn0_nn (ρ := ρ) Y36
  omega
noncomputable def f24 : E := (.imp (.and Y13 (.and Y6 (.and Y7 (.and Y24 (.and Y26 Y34))))) (.not (.cmp .lss (.int 4294967296) Y35)))
theorem fact24 (ρ : Env) : E.B ρ f24 = true := by
  unfold f24
  rw [sm_B_imp]
  simp only [sm_B_and]
  rintro ⟨p0, p1, p2, p3, p4, p5, p6, p7⟩
  have hl0 := t111_len p0
  have hb1 := t132_not p1
  have hb2 := t133_of p2
  try simp only [smA, smW] at *
  have n1 := fn0_nn (ρ := ρ) Y8
  have n4 := fn0_nn (ρ := ρ) Y16
  obtain ⟨a5, ea5, qa5⟩ := cs_i64 ((E.I ρ Y0) - (E.I ρ Y12))
  try simp only [ea5] at *
  omega
noncomputable def f25 : E := (.imp Y52 (.not (.cmp .lss Y0 Y53)))
theorem fact25 (ρ : Env) : E.B ρ f25 = true := by
  unfold f25
  rw [sm_B_imp]
  simp only [sm_B_and]
  rintro ⟨p0, p1, p2, p3, p4, p5, p6, p7⟩
  have hl1 := t111_len p1
  have hb3 := t132_not p3
  have hb4 := t133_of p4
  have ht0_2 := t124_len p0 p2
  have hz0 : E.I ρ (.fn 0 (.fn 10 (.int 0))) = 0 := rfl
  try simp only [smA, smW] at *
  have n3 := fn0_nn (ρ := ρ) Y36
  obtain ⟨a3, ea3, qa3⟩ := cs_i64 ((E.I ρ Y37) + (1))
  try simp only [ea3] at *
  omega
noncomputable def f26 : E := (.imp (.and Y56 (.and Y55 (.and Y57 Y79))) (.fn 111 (.pr (.var 33) (.pr Y8 (.int 0)))))
theorem fact26 (ρ : Env) : E.B ρ f26 = true := by
  unfold f26
  rw [sm_B_imp]
  simp only [sm_B_and]
  rintro ⟨p0, p1, p2, p3, p4, p5, p6, p7, p8⟩
  have g0 : (0) = E.I ρ Y1 := by
    have hl3 := t111_len p3
    have hb6 := t132_not p6
    have hb7 := t133_of p7
    have ht8_4 := t124_len p8 p4
    have hz8 : E.I ρ (.fn 0 (.fn 10 (.int 0))) = 0 := rfl
    try simp only [smA, smW] at *
    have n6 := fn0_nn (ρ := ρ) Y36
    omega
  exact t111_eq p3 g0
noncomputable def f27 : E := (.imp Y74 (.not (.cmp .lss Y0 Y53)))
theorem fact27 (ρ : Env) : E.B ρ f27 = true := by
  unfold f27
  rw [sm_B_imp]
  simp only [sm_B_and]
  rintro ⟨p0, p1, p2, p3, p4, p5, p6, p7⟩
  have hl1 := t111_len p1
  have hb3 := t132_not p3
  have hb4 := t133_of p4
  have ht0_2 := t124_len p0 p2
  try simp only [smA, smW] at *
  have n3 := fn0_nn (ρ := ρ) Y36
  obtain ⟨a3, ea3, qa3⟩ := cs_i64 ((E.I ρ Y37) + (1))
  try simp only [ea3] at *
  omega
noncomputable def f28 : E := (.imp (.and Y56 (.and Y65 (.and Y55 Y82))) (.fn 102 (.pr Y64 (.pr Y1 (.pr Y0 (.pr Y8 (.int 0)))))))
theorem fact28 (ρ : Env) : E.B ρ f28 = true := by
  unfold f28
  rw [sm_B_imp]
  simp only [sm_B_and]
  rintro ⟨p0, p1, p2, p3, p4, p5, p6, p7⟩
  have g0 : E.I ρ (.fn 0 Y36) ≤ E.I ρ Y37 := by
    have hl3 := t111_len p3
    have hb6 := t132_not p6
    have hb7 := t133_of p7
    have ht1_4 := t124_len p1 p4
    try simp only [smA, smW] at *
    have n3 := fn0_nn (ρ := ρ) Y36
    omega
  exact t102_all p1 p4 (by (try simp only [sm_I_int]); omega) rfl
noncomputable def f29 : E := (.imp (.and Y13 (.and Y83 (.and Y6 (.and Y7 Y23)))) Y84)
theorem fact29 (ρ : Env) : E.B ρ f29 = true := by
  unfold f29
  rw [sm_B_imp]
  simp only [sm_B_and]
  rintro ⟨p0, p1, p2, p3, p4⟩
  obtain ⟨g0, g1⟩ : (0) ≤ (1) ∧ (0) ≤ E.I ρ Y12 := by
    have hl0 := t111_len p0
    have hl1 := t111_len p1
    have hb2 := t132_not p2
    have hb3 := t133_of p3
    try simp only [smA, smW] at *
    omega
  have g2 : E.I ρ (.fn 6 (.pr Y12 (.int 1))) = E.I ρ (.fn 6 (.pr Y12 (.int 1))) := rfl
  exact t111_trans p1 p0 (by (try simp only [sm_I_int]); omega) (by (try simp only [sm_I_int]); omega) g2
noncomputable def f30 : E := (.imp (.and Y42 (.and (.fn 1 (.pr Y36 Y37)) Y85)) (.fn 124 (.pr (.fn 23 (.pr Y37 (.fn 10 (.int 0)))) (.pr Y36 Y53))))
theorem fact30 (ρ : Env) : E.B ρ f30 = true := by
  unfold f30
  rw [sm_B_imp]
  simp only [sm_B_and]
  rintro ⟨p0, p1, p2, p3, p4, p5, p6, p7, p8⟩
  obtain ⟨g0, g1, g2⟩ : (0) ≤ E.I ρ Y37 ∧ E.I ρ Y37 < E.I ρ (.fn 0 Y36) ∧ E.I ρ Y53 = E.I ρ (.fn 6 (.pr Y37 (.int 1))) := by
    have hl3 := t111_len p3
    have hb6 := t132_not p6
    have hb7 := t133_of p7
    have ht8_4 := t124_len p8 p4
    have hz8 : E.I ρ (.fn 0 (.fn 10 (.int 0))) = 0 := rfl
    try simp only [smA, smW] at *
    have n3 := fn0_nn (ρ := ρ) Y36
    obtain ⟨a3, ea3, qa3⟩ := cs_i64 ((E.I ρ Y37) + (1))
    try simp only [ea3] at *
    omega
  exact t124_yes p8 p1 (by (try simp only [sm_I_int]); omega) g1 g2 (by simp only [ints_app, ints_cons, ints_nil, I_nth, List.nil_append])
noncomputable def f31 : E := (.imp (.and Y42 (.and (.not (.fn 1 (.pr Y36 Y37))) Y85)) (.fn 124 (.pr (.fn 10 (.int 0)) (.pr Y36 Y53))))
theorem fact31 (ρ : Env) : E.B ρ f31 = true := by
  unfold f31
  rw [sm_B_imp]
  simp only [sm_B_and]
  rintro ⟨p0, p1, p2, p3, p4, p5, p6, p7, p8⟩
  obtain ⟨g0, g1, g2⟩ : (0) ≤ E.I ρ Y37 ∧ E.I ρ Y37 < E.I ρ (.fn 0 Y36) ∧ E.I ρ Y53 = E.I ρ (.fn 6 (.pr Y37 (.int 1))) := by
    have hl3 := t111_len p3
    have hb6 := t132_not p6
    have hb7 := t133_of p7
    have ht8_4 := t124_len p8 p4
    have hz8 : E.I ρ (.fn 0 (.fn 10 (.int 0))) = 0 := rfl
    try simp only [smA, smW] at *
    have n3 := fn0_nn (ρ := ρ) Y36
    obtain ⟨a3, ea3, qa3⟩ := cs_i64 ((E.I ρ Y37) + (1))
    try simp only [ea3] at *
    omega
  exact t124_no p8 (by rw [sm_B_not] at p1; exact p1) (by (try simp only [sm_I_int]); omega) g1 g2
noncomputable def f32 : E := (.imp Y63 (.cmp .eql (.var 34) Y27))
theorem fact32 (ρ : Env) : E.B ρ f32 = true := by
  unfold f32
  rw [sm_B_imp]
  simp only [sm_B_and]
  rintro ⟨p0, p1, p2, p3, p4, p5, p6, p7, p8⟩
  have hl2 := t111_len p2
  have hb5 := t132_not p5
  have hb6 := t133_of p6
  have ht0_3 := t124_len p0 p3
  have hz0 : E.I ρ (.fn 0 (.fn 10 (.int 0))) = 0 := rfl
  try simp only [smA, smW] at *
  have n3 := fn0_nn (ρ := ρ) Y36
  omega
noncomputable def f33 : E := (.imp (.and Y42 (.and (.not (.fn 1 (.pr Y36 Y37))) Y87)) (.fn 124 (.pr Y64 (.pr Y36 Y53))))
theorem fact33 (ρ : Env) : E.B ρ f33 = true := by
  unfold f33
  rw [sm_B_imp]
  simp only [sm_B_and]
  rintro ⟨p0, p1, p2, p3, p4, p5, p6, p7, p8⟩
  obtain ⟨g0, g1, g2⟩ : (0) ≤ E.I ρ Y37 ∧ E.I ρ Y37 < E.I ρ (.fn 0 Y36) ∧ E.I ρ Y53 = E.I ρ (.fn 6 (.pr Y37 (.int 1))) := by
    have hl4 := t111_len p4
    have hb7 := t132_not p7
    have hb8 := t133_of p8
    have ht2_5 := t124_len p2 p5
    try simp only [smA, smW] at *
    have n3 := fn0_nn (ρ := ρ) Y36
    obtain ⟨a3, ea3, qa3⟩ := cs_i64 ((E.I ρ Y37) + (1))
    try simp only [ea3] at *
    omega
  exact t124_no p2 (by rw [sm_B_not] at p1; exact p1) (by (try simp only [sm_I_int]); omega) g1 g2
noncomputable def f34 : E := (.imp (.and Y65 (.and Y55 (.and Y40 (.and Y41 (.and Y45 (.and Y6 (.and Y7 (.and Y56 (.and Y67 Y57))))))))) (.cmp .eql Y66 Y1))
theorem fact34 (ρ : Env) : E.B ρ f34 = true := by
  unfold f34
  rw [sm_B_imp]
  simp only [sm_B_and]
  rintro ⟨p0, p1, p2, p3, p4, p5, p6, p7, p8, p9⟩
  have hl2 := t111_len p2
  have hb5 := t132_not p5
  have hb6 := t133_of p6
  have ht0_3 := t124_len p0 p3
  try simp only [smA, smW] at *
  have n3 := fn0_nn (ρ := ρ) Y36
  have n5 := fn0_nn (ρ := ρ) Y64
  omega
noncomputable def f35 : E := (.imp (.and Y28 (.and Y13 (.and Y6 (.and Y7 Y88)))) Y89)
theorem fact35 (ρ : Env) : E.B ρ f35 = true := by
  unfold f35
  rw [sm_B_imp]
  simp only [sm_B_and]
  rintro ⟨p0, p1, p2, p3, p4⟩
  have hl1 := t111_len p1
  have hb2 := t132_not p2
  have hb3 := t133_of p3
  try simp only [smA, smW] at *
  omega
noncomputable def f36 : E := (.imp Y52 Y90)
theorem fact36 (ρ : Env) : E.B ρ f36 = true := by
  unfold f36
  rw [sm_B_imp]
  simp only [sm_B_and]
  rintro ⟨p0, p1, p2, p3, p4, p5, p6, p7⟩
  have hl1 := t111_len p1
  have hb3 := t132_not p3
  have hb4 := t133_of p4
  have ht0_2 := t124_len p0 p2
  have hz0 : E.I ρ (.fn 0 (.fn 10 (.int 0))) = 0 := rfl
  try simp only [smA, smW] at *
  have n3 := fn0_nn (ρ := ρ) Y36
  obtain ⟨a3, ea3, qa3⟩ := cs_i64 ((E.I ρ Y37) + (1))
  try simp only [ea3] at *
  omega
noncomputable def f37 : E := (.imp (.and Y65 (.and Y44 (.and Y57 (.and Y40 (.and Y41 (.and Y45 (.and Y6 (.and Y7 (.and Y42 Y73))))))))) (.not (.cmp .lss (.int 300) (.fn 6 (.pr Y66 (.int 1))))))
theorem fact37 (ρ : Env) : E.B ρ f37 = true := by
  unfold f37
  rw [sm_B_imp]
  simp only [sm_B_and]
  rintro ⟨p0, p1, p2, p3, p4, p5, p6, p7, p8, p9, p10, p11⟩
  have hl3 := t111_len p3
  have hb6 := t132_not p6
  have hb7 := t133_of p7
  have ht0_4 := t124_len p0 p4
  try simp only [smA, smW] at *
  have n5 := fn0_nn (ρ := ρ) Y36
  have n8 := fn0_nn (ρ := ρ) Y64
  omega
noncomputable def f38 : E := (.imp Y74 Y90)
theorem fact38 (ρ : Env) : E.B ρ f38 = true := by
  unfold f38
  rw [sm_B_imp]
  simp only [sm_B_and]
  rintro ⟨p0, p1, p2, p3, p4, p5, p6, p7⟩
  have hl1 := t111_len p1
  have hb3 := t132_not p3
  have hb4 := t133_of p4
  have ht0_2 := t124_len p0 p2
  try simp only [smA, smW] at *
  have n3 := fn0_nn (ρ := ρ) Y36
  obtain ⟨a3, ea3, qa3⟩ := cs_i64 ((E.I ρ Y37) + (1))
  try simp only [ea3] at *
  omega
noncomputable def f39 : E := (.imp (.and Y28 (.and Y13 (.and Y88 (.and Y83 (.and Y24 (.and Y6 (.and Y7 (.and Y32 (.and Y30 (.and Y14 Y92)))))))))) (.fn 123 (.pr Y16 (.pr (.int 0) (.pr Y94 Y97)))))
theorem fact39 (ρ : Env) : E.B ρ f39 = true := by
  unfold f39
  rw [sm_B_imp]
  simp only [sm_B_and]
  rintro ⟨p0, p1, p2, p3, p4, p5, p6, p7, p8, p9, p10, p11, p12, p13⟩
  obtain ⟨h1, h2, h3⟩ : (0) ≤ (0) ∧ (0) ≤ E.I ρ Y12 ∧ E.I ρ Y12 = E.I ρ (.fn 6 (.pr Y12 (.int 0))) := by
    have hl1 := t111_len p1
    have hl3 := t111_len p3
    have hb5 := t132_not p5
    have hb6 := t133_of p6
    have hn0 := t131_nth (t131_drop p1 p9) (.int 0)
    have hn1 := t131_nth p9 Y12
    try simp only [smA, smW] at *
    have n5 := fn0_nn (ρ := ρ) Y8
    have n7 := fn0_nn (ρ := ρ) Y16
    omega
  have g6 : E.I ρ (.fn 1 (.pr Y11 (.int 0))) = E.I ρ (.fn 1 (.pr Y8 Y12)) := nth_drop p1 (by (try simp only [sm_I_int]); omega) (by (try simp only [sm_I_int]); omega) h3
  have e1 : E.I ρ Y35 = E.I ρ (.fn 7 (.pr Y0 Y12)) := by
    have hl1 := t111_len p1
    have hl3 := t111_len p3
    have hb5 := t132_not p5
    have hb6 := t133_of p6
    have hn0 := t131_nth (t131_drop p1 p9) (.int 0)
    have hn1 := t131_nth p9 Y12
    try simp only [smA, smW] at *
    have n5 := fn0_nn (ρ := ρ) Y8
    have n7 := fn0_nn (ρ := ρ) Y16
    obtain ⟨a8, ea8, qa8⟩ := cs_i64 ((E.I ρ Y0) - (E.I ρ Y12))
    try simp only [ea8] at *
    omega
  have e2 : E.I ρ (.fn 7 (.pr Y0 Y12)) = E.I ρ (.fn 7 (.pr Y0 Y12)) := rfl
  obtain ⟨k0, k3, k1, k2, k4, k5, k6⟩ : (0) ≤ E.I ρ (.fn 1 (.pr Y11 (.int 0))) ∧ (0) ≤ E.I ρ (.fn 1 (.pr Y8 Y12)) ∧ (0) < E.I ρ (.fn 7 (.pr Y0 Y12)) ∧ E.I ρ (.fn 7 (.pr Y0 Y12)) < (9223372036854775808) ∧ (0) ≤ E.I ρ Y94 ∧ (0) ≤ E.I ρ Y12 ∧ E.I ρ Y97 < E.I ρ (.fn 7 (.pr Y0 Y12)) := by
    have hl1 := t111_len p1
    have hl3 := t111_len p3
    have hb5 := t132_not p5
    have hb6 := t133_of p6
    have hn0 := t131_nth (t131_drop p1 p9) (.int 0)
    have hn1 := t131_nth p9 Y12
    try simp only [smA, smW] at *
    have n5 := fn0_nn (ρ := ρ) Y8
    have n7 := fn0_nn (ρ := ρ) Y16
    obtain ⟨a10, ea10, qa10⟩ := cs_i64 ((E.I ρ Y0) - (E.I ρ Y12))
    try simp only [ea10] at *
    obtain ⟨a11, ea11, qa11⟩ := cs_u64 a10
    try simp only [ea11] at *
    obtain ⟨a12, ea12, qa12⟩ := cs_rem (E.I ρ (.fn 1 (.pr Y11 (.int 0)))) a11
    try simp only [ea12] at *
    obtain ⟨a13, ea13, qa13⟩ := cs_i64 a12
    try simp only [ea13] at *
    obtain ⟨a14, ea14, qa14⟩ := cs_u64 ((E.I ρ Y0) - (E.I ρ Y12))
    try simp only [ea14] at *
    obtain ⟨a15, ea15, qa15⟩ := cs_rem (E.I ρ (.fn 1 (.pr Y8 Y12))) a14
    try simp only [ea15] at *
    obtain ⟨a16, ea16, qa16⟩ := cs_i64 a15
    try simp only [ea16] at *
    omega
  have q1 := choose_val (s := (.fn 1 (.pr Y11 (.int 0)))) (b := (.fn 7 (.pr Y0 Y12))) (by (try simp only [sm_I_int]); omega) (by (try simp only [sm_I_int]); omega) (by (try simp only [sm_I_int]); omega) e1
  have q2 := choose_val (s := (.fn 1 (.pr Y8 Y12))) (b := (.fn 7 (.pr Y0 Y12))) (by (try simp only [sm_I_int]); omega) (by (try simp only [sm_I_int]); omega) (by (try simp only [sm_I_int]); omega) e2
  exact t123_start p11 rfl (by rw [q1, q2, g6]) (by (try simp only [sm_I_int]); omega) (by (try simp only [sm_I_int]); omega) k6
noncomputable def f40 : E := (.imp Y52 Y99)
theorem fact40 (ρ : Env) : E.B ρ f40 = true := by
  unfold f40
  rw [sm_B_imp]
  simp only [sm_B_and]
  rintro ⟨p0, p1, p2, p3, p4, p5, p6, p7⟩
  have hl1 := t111_len p1
  have hb3 := t132_not p3
  have hb4 := t133_of p4
  have ht0_2 := t124_len p0 p2
  have hz0 : E.I ρ (.fn 0 (.fn 10 (.int 0))) = 0 := rfl
  try simp only [smA, smW] at *
  have n3 := fn0_nn (ρ := ρ) Y36
  obtain ⟨a3, ea3, qa3⟩ := cs_i64 ((E.I ρ Y37) + (1))
  try simp only [ea3] at *
  omega
noncomputable def f41 : E := (.imp (.and Y65 (.and Y40 (.and Y41 (.and Y6 Y67)))) (.cmp .eql (.fn 6 (.pr Y66 (.int 1))) (.fn 6 (.pr (.fn 0 Y64) (.int 1)))))
theorem fact41 (ρ : Env) : E.B ρ f41 = true := by
  unfold f41
  rw [sm_B_imp]
  simp only [sm_B_and]
  rintro ⟨p0, p1, p2, p3, p4⟩
  have hl1 := t111_len p1
  have hb3 := t132_not p3
  have ht0_2 := t124_len p0 p2
  try simp only [smA, smW] at *
  have n2 := fn0_nn (ρ := ρ) Y64
  omega
noncomputable def f42 : E := (.imp Y74 Y99)
theorem fact42 (ρ : Env) : E.B ρ f42 = true := by
  unfold f42
  rw [sm_B_imp]
  simp only [sm_B_and]
  rintro ⟨p0, p1, p2, p3, p4, p5, p6, p7⟩
  have hl1 := t111_len p1
  have hb3 := t132_not p3
  have hb4 := t133_of p4
  have ht0_2 := t124_len p0 p2
  try simp only [smA, smW] at *
  have n3 := fn0_nn (ρ := ρ) Y36
  obtain ⟨a3, ea3, qa3⟩ := cs_i64 ((E.I ρ Y37) + (1))
  try simp only [ea3] at *
  omega
noncomputable def f43 : E := (.imp (.and Y103 (.and Y84 (.and Y21 (.and Y6 (.and Y7 (.and Y14 (.and Y104 Y106))))))) (.not (.cmp .lss Y107 (.int 0))))
theorem fact43 (ρ : Env) : E.B ρ f43 = true := by
  unfold f43
  rw [sm_B_imp]
  simp only [sm_B_and]
  rintro ⟨p0, p1, p2, p3, p4, p5, p6, p7⟩
  have hr0 := t123_rng p0
  have hl1 := t111_len p1
  have hb3 := t132_not p3
  have hb4 := t133_of p4
  have hn0 := t131_nth p5 Y12
  try simp only [smA, smW] at *
  have n1 := fn0_nn (ρ := ρ) Y16
  obtain ⟨a3, ea3, qa3⟩ := cs_i64 ((E.I ρ Y100) + (1))
  try simp only [ea3] at *
  omega
noncomputable def f44 : E := (.imp Y109 (.not (.cmp .lss Y110 (.int 0))))
theorem fact44 (ρ : Env) : E.B ρ f44 = true := by
  unfold f44
  rw [sm_B_imp]
  simp only [sm_B_and]
  rintro ⟨p0, p1, p2, p3, p4, p5, p6, p7, p8, p9, p10⟩
  have hr0 := t123_rng p0
  have hl1 := t111_len p1
  have hb2 := t132_not p2
  have hb3 := t133_of p3
  have hn0 := t131_nth p4 Y12
  try simp only [smA, smW] at *
  have n1 := fn0_nn (ρ := ρ) Y8
  obtain ⟨a5, ea5, qa5⟩ := cs_i64 ((E.I ρ Y12) + (1))
  try simp only [ea5] at *
  omega
noncomputable def f45 : E := (.imp (.and Y42 (.and (.fn 1 (.pr Y36 Y37)) Y87)) (.fn 124 (.pr (.fn 3 (.pr Y64 (.fn 23 (.pr Y37 (.fn 10 (.int 0)))))) (.pr Y36 Y53))))
theorem fact45 (ρ : Env) : E.B ρ f45 = true := by
  unfold f45
  rw [sm_B_imp]
  simp only [sm_B_and]
  rintro ⟨p0, p1, p2, p3, p4, p5, p6, p7, p8⟩
  obtain ⟨g0, g1, g2⟩ : (0) ≤ E.I ρ Y37 ∧ E.I ρ Y37 < E.I ρ (.fn 0 Y36) ∧ E.I ρ Y53 = E.I ρ (.fn 6 (.pr Y37 (.int 1))) := by
    have hl4 := t111_len p4
    have hb7 := t132_not p7
    have hb8 := t133_of p8
    have ht2_5 := t124_len p2 p5
    try simp only [smA, smW] at *
    have n3 := fn0_nn (ρ := ρ) Y36
    obtain ⟨a3, ea3, qa3⟩ := cs_i64 ((E.I ρ Y37) + (1))
    try simp only [ea3] at *
    omega
  exact t124_yes p2 p1 (by (try simp only [sm_I_int]); omega) g1 g2 (by simp only [ints_app, ints_cons, ints_nil, I_nth, List.nil_append])
noncomputable def f46 : E := (.imp (.and Y104 (.and (.fn 1 (.pr Y16 Y100)) Y115)) (.fn 123 (.pr Y16 (.pr Y107 Y102))))
theorem fact46 (ρ : Env) : E.B ρ f46 = true := by
  unfold f46
  rw [sm_B_imp]
  simp only [sm_B_and]
  rintro ⟨p0, p1, p2, p3, p4, p5, p6, p7, p8⟩
  obtain ⟨g0, g1, g2⟩ : (0) ≤ E.I ρ Y100 ∧ E.I ρ Y100 < E.I ρ (.fn 0 Y16) ∧ E.I ρ Y107 = E.I ρ (.fn 6 (.pr Y100 (.int 1))) := by
    have hb2 := t132_not p2
    have hb3 := t133_of p3
    have hr5 := t123_rng p5
    have hl7 := t111_len p7
    have hn0 := t131_nth p4 Y12
    try simp only [smA, smW] at *
    have n3 := fn0_nn (ρ := ρ) Y16
    obtain ⟨a3, ea3, qa3⟩ := cs_i64 ((E.I ρ Y100) + (1))
    try simp only [ea3] at *
    omega
  exact t123_yes p5 p1 (by (try simp only [sm_I_int]); omega) g1 g2
noncomputable def f47 : E := (.imp Y109 (.not (.cmp .lss Y1 Y110)))
theorem fact47 (ρ : Env) : E.B ρ f47 = true := by
  unfold f47
  rw [sm_B_imp]
  simp only [sm_B_and]
  rintro ⟨p0, p1, p2, p3, p4, p5, p6, p7, p8, p9, p10⟩
  have hr0 := t123_rng p0
  have hl1 := t111_len p1
  have hb2 := t132_not p2
  have hb3 := t133_of p3
  have hn0 := t131_nth p4 Y12
  try simp only [smA, smW] at *
  have n1 := fn0_nn (ρ := ρ) Y8
  obtain ⟨a5, ea5, qa5⟩ := cs_i64 ((E.I ρ Y12) + (1))
  try simp only [ea5] at *
  omega
noncomputable def f48 : E := (.imp (.and Y104 (.and (.not (.fn 1 (.pr Y16 Y100))) (.and (.not (.cmp .eql Y101 (.int 0))) Y115))) (.fn 123 (.pr Y16 (.pr Y107 (.pr (.ar .sub .i64 Y101 (.int 1)) Y97)))))
theorem fact48 (ρ : Env) : E.B ρ f48 = true := by
  unfold f48
  rw [sm_B_imp]
  simp only [sm_B_and]
  rintro ⟨p0, p1, p2, p3, p4, p5, p6, p7, p8, p9⟩
  obtain ⟨g0, g1, g2, g3⟩ : (0) ≤ E.I ρ Y100 ∧ E.I ρ Y100 < E.I ρ (.fn 0 Y16) ∧ E.I ρ Y107 = E.I ρ (.fn 6 (.pr Y100 (.int 1))) ∧ E.I ρ (.ar .sub .i64 Y101 (.int 1)) = E.I ρ (.fn 7 (.pr Y101 (.int 1))) := by
    have hb3 := t132_not p3
    have hb4 := t133_of p4
    have hr6 := t123_rng p6
    have hl8 := t111_len p8
    have hn0 := t131_nth p5 Y12
    try simp only [smA, smW] at *
    have n4 := fn0_nn (ρ := ρ) Y16
    obtain ⟨a4, ea4, qa4⟩ := cs_i64 ((E.I ρ Y100) + (1))
    try simp only [ea4] at *
    obtain ⟨a5, ea5, qa5⟩ := cs_i64 ((E.I ρ Y101) - (1))
    try simp only [ea5] at *
    omega
  rw [sm_B_not, sm_B_eql] at p2
  exact t123_no p6 (by rw [sm_B_not] at p1; exact p1) (by (try simp only [sm_I_int]); omega) g1 g2 g3 p2
noncomputable def f49 : E := (.imp Y122 (.cmp .lss (.fn 7 (.pr Y0 Y107)) (.fn 7 (.pr Y0 Y100))))
theorem fact49 (ρ : Env) : E.B ρ f49 = true := by
  unfold f49
  rw [sm_B_imp]
  simp only [sm_B_and]
  rintro ⟨p0, p1, p2, p3, p4, p5, p6, p7⟩
  have hr0 := t123_rng p0
  have hl1 := t111_len p1
  have hb2 := t132_not p2
  have hb3 := t133_of p3
  have hn0 := t131_nth p4 Y12
  try simp only [smA, smW] at *
  have n3 := fn0_nn (ρ := ρ) Y16
  obtain ⟨a3, ea3, qa3⟩ := cs_i64 ((E.I ρ Y100) + (1))
  try simp only [ea3] at *
  omega
noncomputable def f50 : E := (.imp (.and Y104 (.and (.not (.fn 1 (.pr Y16 Y100))) (.and (.cmp .eql Y101 (.int 0)) (.and Y24 (.and Y6 (.and Y7 (.and Y32 (.and Y30 (.and Y14 (.and Y103 (.and Y106 (.and Y89 (.and Y84 Y92))))))))))))) (.fn 122 (.pr (.fn 2 (.pr Y16 (.pr Y100 (.bool true)))) (.pr Y110 Y10))))
theorem fact50 (ρ : Env) : E.B ρ f50 = true := by
  unfold f50
  rw [sm_B_imp]
  simp only [sm_B_and]
  rintro ⟨p0, p1, p2, p3, p4, p5, p6, p7, p8, p9, p10, p11, p12, p13, p14, p15, p16⟩
  obtain ⟨g0, g1, g2, g3, g4, g5, g6, g7⟩ : E.I ρ Y101 = (0) ∧ (0) ≤ E.I ρ Y100 ∧ E.I ρ Y100 < E.I ρ (.fn 0 Y16) ∧ (0) ≤ E.I ρ Y12 ∧ E.I ρ Y12 < E.I ρ Y1 ∧ E.I ρ Y12 < E.I ρ (.fn 0 Y8) ∧ E.I ρ Y12 < E.I ρ Y0 ∧ E.I ρ Y110 = E.I ρ (.fn 6 (.pr Y12 (.int 1))) := by
    have hb4 := t132_not p4
    have hb5 := t133_of p5
    have hr9 := t123_rng p9
    have hl12 := t111_len p12
    have hn0 := t131_nth p8 Y12
    try simp only [smA, smW] at *
    have n4 := fn0_nn (ρ := ρ) Y8
    have n9 := fn0_nn (ρ := ρ) Y16
    obtain ⟨a9, ea9, qa9⟩ := cs_i64 ((E.I ρ Y12) + (1))
    try simp only [ea9] at *
    omega
  have e1 : E.I ρ (.fn 7 (.pr Y0 Y12)) = E.I ρ (.fn 7 (.pr Y0 Y12)) := rfl
  obtain ⟨k0, k1, k2⟩ : (0) ≤ E.I ρ (.fn 1 (.pr Y8 Y12)) ∧ (0) < E.I ρ (.fn 7 (.pr Y0 Y12)) ∧ E.I ρ (.fn 7 (.pr Y0 Y12)) < (9223372036854775808) := by
    have hb4 := t132_not p4
    have hb5 := t133_of p5
    have hr9 := t123_rng p9
    have hl12 := t111_len p12
    have hn0 := t131_nth p8 Y12
    try simp only [smA, smW] at *
    have n4 := fn0_nn (ρ := ρ) Y8
    have n9 := fn0_nn (ρ := ρ) Y16
    omega
  have q1 := choose_val (s := (.fn 1 (.pr Y8 Y12))) (b := (.fn 7 (.pr Y0 Y12))) (by (try simp only [sm_I_int]); omega) (by (try simp only [sm_I_int]); omega) (by (try simp only [sm_I_int]); omega) e1
  exact t122_set p14 p9 g0 (by rw [sm_B_not] at p1; exact p1) (by (try simp only [sm_I_int]); omega) g2 (by (try simp only [sm_I_int]); omega) g4 g5 q1 g6 g7
noncomputable def f51 : E := (.imp (.and (.not Y104) (.and Y6 (.and Y7 (.and Y14 (.and Y103 (.and Y84 Y21)))))) (.fn 122 (.pr Y16 (.pr Y110 Y10))))
theorem fact51 (ρ : Env) : E.B ρ f51 = true := by
  unfold f51
  rw [sm_B_imp]
  simp only [sm_B_and]
  rintro ⟨p0, p1, p2, p3, p4, p5, p6⟩
  have g0 : E.I ρ (.fn 0 Y16) ≤ E.I ρ Y100 := by
    have hb1 := t132_not p1
    have hb2 := t133_of p2
    have hr4 := t123_rng p4
    have hl5 := t111_len p5
    have hn0 := t131_nth p3 Y12
    try simp only [smA, smW] at *
    have n3 := fn0_nn (ρ := ρ) Y16
    omega
  exact (t123_end p4 (by (try simp only [sm_I_int]); omega)).elim
noncomputable def f52 : E := (.imp Y122 (.not (.cmp .lss (.fn 7 (.pr Y0 Y107)) (.int 0))))
theorem fact52 (ρ : Env) : E.B ρ f52 = true := by
  unfold f52
  rw [sm_B_imp]
  simp only [sm_B_and]
  rintro ⟨p0, p1, p2, p3, p4, p5, p6, p7⟩
  have hr0 := t123_rng p0
  have hl1 := t111_len p1
  have hb2 := t132_not p2
  have hb3 := t133_of p3
  have hn0 := t131_nth p4 Y12
  try simp only [smA, smW] at *
  have n3 := fn0_nn (ρ := ρ) Y16
  obtain ⟨a3, ea3, qa3⟩ := cs_i64 ((E.I ρ Y100) + (1))
  try simp only [ea3] at *
  omega
noncomputable def f53 : E := (.imp (.and Y24 (.and Y6 (.and Y7 (.and Y32 (.and Y30 (.and Y14 (.and Y103 (.and Y89 (.and Y84 Y108))))))))) (.fn 111 (.pr (.var 14) (.pr Y8 Y110))))
theorem fact53 (ρ : Env) : E.B ρ f53 = true := by
  unfold f53
  rw [sm_B_imp]
  simp only [sm_B_and]
  rintro ⟨p0, p1, p2, p3, p4, p5, p6, p7, p8, p9, p10⟩
  have g0 : E.I ρ Y110 = E.I ρ (.fn 6 (.pr Y12 (.int 1))) := by
    have hb1 := t132_not p1
    have hb2 := t133_of p2
    have hr6 := t123_rng p6
    have hl8 := t111_len p8
    have hn0 := t131_nth p5 Y12
    try simp only [smA, smW] at *
    have n1 := fn0_nn (ρ := ρ) Y8
    obtain ⟨a5, ea5, qa5⟩ := cs_i64 ((E.I ρ Y12) + (1))
    try simp only [ea5] at *
    omega
  exact t111_eq p8 g0
noncomputable def f54 : E := (.imp Y109 (.cmp .eql (.var 15) (.fn 6 (.pr Y27 Y110))))
theorem fact54 (ρ : Env) : E.B ρ f54 = true := by
  unfold f54
  rw [sm_B_imp]
  simp only [sm_B_and]
  rintro ⟨p0, p1, p2, p3, p4, p5, p6, p7, p8, p9, p10⟩
  have hr0 := t123_rng p0
  have hl1 := t111_len p1
  have hb2 := t132_not p2
  have hb3 := t133_of p3
  have hn0 := t131_nth p4 Y12
  try simp only [smA, smW] at *
  have n1 := fn0_nn (ρ := ρ) Y8
  obtain ⟨a5, ea5, qa5⟩ := cs_i64 ((E.I ρ Y12) + (1))
  try simp only [ea5] at *
  omega
noncomputable def f55 : E := (.imp Y109 (.cmp .lss (.fn 7 (.pr Y1 Y110)) (.fn 7 (.pr Y1 Y12))))
theorem fact55 (ρ : Env) : E.B ρ f55 = true := by
  unfold f55
  rw [sm_B_imp]
  simp only [sm_B_and]
  rintro ⟨p0, p1, p2, p3, p4, p5, p6, p7, p8, p9, p10⟩
  have hr0 := t123_rng p0
  have hl1 := t111_len p1
  have hb2 := t132_not p2
  have hb3 := t133_of p3
  have hn0 := t131_nth p4 Y12
  try simp only [smA, smW] at *
  have n1 := fn0_nn (ρ := ρ) Y8
  obtain ⟨a5, ea5, qa5⟩ := cs_i64 ((E.I ρ Y12) + (1))
  try simp only [ea5] at *
  omega
noncomputable def f56 : E := (.imp Y109 (.not (.cmp .lss (.fn 7 (.pr Y1 Y110)) (.int 0))))
theorem fact56 (ρ : Env) : E.B ρ f56 = true := by
  unfold f56
  rw [sm_B_imp]
  simp only [sm_B_and]
  rintro ⟨p0, p1, p2, p3, p4, p5, p6, p7, p8, p9, p10⟩
  have hr0 := t123_rng p0
  have hl1 := t111_len p1
  have hb2 := t132_not p2
  have hb3 := t133_of p3
  have hn0 := t131_nth p4 Y12
  try simp only [smA, smW] at *
  have n1 := fn0_nn (ρ := ρ) Y8
  obtain ⟨a5, ea5, qa5⟩ := cs_i64 ((E.I ρ Y12) + (1))
  try simp only [ea5] at *
  omega
noncomputable def facts : List E := [f0, f1, f2, f3, f4, f5, f6, f7, f8, f9, f10, f11, f12, f13, f14, f15, f16, f17, f18, f19, f20, f21, f22, f23, f24, f25, f26, f27, f28, f29, f30, f31, f32, f33, f34, f35, f36, f37, f38, f39, f40, f41, f42, f43, f44, f45, f46, f47, f48, f49, f50, f51, f52, f53, f54, f55, f56]
theorem facts_ok : ∀ e ∈ facts, ∀ ρ : Env, E.B ρ e = true := (all_cons fact0 (all_cons fact1 (all_cons fact2 (all_cons fact3 (all_cons fact4 (all_cons fact5 (all_cons fact6 (all_cons fact7 (all_cons fact8 (all_cons fact9 (all_cons fact10 (all_cons fact11 (all_cons fact12 (all_cons fact13 (all_cons fact14 (all_cons fact15 (all_cons fact16 (all_cons fact17 (all_cons fact18 (all_cons fact19 (all_cons fact20 (all_cons fact21 (all_cons fact22 (all_cons fact23 (all_cons fact24 (all_cons fact25 (all_cons fact26 (all_cons fact27 (all_cons fact28 (all_cons fact29 (all_cons fact30 (all_cons fact31 (all_cons fact32 (all_cons fact33 (all_cons fact34 (all_cons fact35 (all_cons fact36 (all_cons fact37 (all_cons fact38 (all_cons fact39 (all_cons fact40 (all_cons fact41 (all_cons fact42 (all_cons fact43 (all_cons fact44 (all_cons fact45 (all_cons fact46 (all_cons fact47 (all_cons fact48 (all_cons fact49 (all_cons fact50 (all_cons fact51 (all_cons fact52 (all_cons fact53 (all_cons fact54 (all_cons fact55 (all_cons fact56 all_nil)))))))))))))))))))))))))))))))))))))))))))))))))))))))))
end p9
set_option maxRecDepth 100000 in
theorem spec9_0 : NatOk Try.prog (specNat (spR)) :=
  spec_of_check good (facts := p9.facts) p9.facts_ok (anns := annR) (plainAnns_ok _ (by kernel_rfl)) (nats := natl10) natl10_ok (n := 3000) (by kernel_rfl)
noncomputable def natl11 : List Nat1 := specNat (spR) :: natl10
theorem natl11_ok : ∀ x ∈ natl11, NatOk Try.prog x := by
  intro x hx
  rcases List.mem_cons.1 hx with rfl | hx
  · exact spec9_0
  exact natl10_ok x hx

end Go.Proofs.Ytmcifbikfjmmfaa.drawsPlays
