/-
  DrawsPlays: contracts of functions, part 3.
-/
import Derived.Test.YtmcifbikfjmmfaaRows
import Derived.Test.YtmcifbikfjmmfaaNat
import Derived.WalkKit
import Derived.ProofKit
import Derived.OpenShut
import Derived.ChangeOld
import Derived.Below
import Derived.KernelRfl
import Derived.Lib.SmallJoins
import Derived.Test.YtmcifbikfjmmfaaDrawsPlaysPartb
namespace Go.Proofs.Ytmcifbikfjmmfaa.drawsPlays
open Go.ChangeShapes Go.WideShapes Go.ChangeAt Go.RowKit
open Go.SX
set_option linter.unusedVariables false
set_option linter.unusedSimpArgs false
set_option maxRecDepth 100000
noncomputable abbrev X0 : E := .var 5
noncomputable abbrev X1 : E := .var 4
noncomputable abbrev X2 : E := .fn 132 (.pr X1 X0)
noncomputable abbrev X3 : E := .cmp .lss X1 (.int 0)
noncomputable abbrev X4 : E := .var 1
noncomputable abbrev X5 : E := .not (.cmp .lss (.int 300) X4)
noncomputable abbrev X6 : E := .var 3
noncomputable abbrev X7 : E := .not (.cmp .lss X4 X6)
noncomputable abbrev X8 : E := .not (.cmp .lss X6 (.int 0))
noncomputable abbrev X9 : E := .cmp .lss (.ar .sub .i64 X4 X6) X1
noncomputable abbrev X10 : E := .cmp .lss (.fn 7 (.pr X4 X6)) X1
noncomputable abbrev X11 : E := .not X2
noncomputable abbrev X12 : E := .fn 133 X0
noncomputable abbrev X13 : E := .not (.cmp .lss X4 (.int 0))
noncomputable abbrev X14 : E := .var 0
noncomputable abbrev X15 : E := .cmp .eql X4 (.fn 0 X14)
noncomputable abbrev X16 : E := .not X10
noncomputable abbrev X17 : E := .var 10
noncomputable abbrev X18 : E := .cmp .eql X17 (.int 0)
noncomputable abbrev X19 : E := .ar .add .i64 X17 (.int 1)
noncomputable abbrev X20 : E := .var 12
noncomputable abbrev X21 : E := .var 11
noncomputable abbrev X22 : E := .cmp .eql X20 (.fn 0 X21)
noncomputable abbrev X23 : E := .cmp .lss X17 (.int 1)
noncomputable abbrev X24 : E := .not X23
noncomputable abbrev X25 : E := .cmp .eql X20 X17
noncomputable abbrev X26 : E := .and X24 X25
noncomputable abbrev X27 : E := .and X22 X26
noncomputable abbrev X28 : E := .cmp .lss X17 X0
noncomputable abbrev X29 : E := .not X28
noncomputable abbrev X30 : E := .cmp .lss X0 X17
noncomputable abbrev X31 : E := .not X30
noncomputable abbrev X32 : E := .and X31 X26
noncomputable abbrev X33 : E := .and X22 X32
noncomputable abbrev X34 : E := .and X29 X33
noncomputable abbrev X35 : E := .and X12 X34
noncomputable abbrev X36 : E := .and X11 X35
noncomputable abbrev X37 : E := .and X11 X12
noncomputable abbrev X38 : E := .pr X14 X6
noncomputable abbrev X39 : E := .pr X0 X38
noncomputable abbrev X40 : E := .pr X1 X39
noncomputable abbrev X41 : E := .pr (.int 0) X40
noncomputable abbrev X42 : E := .var 26
noncomputable abbrev X43 : E := .cmp .lss X42 X1
noncomputable abbrev X44 : E := .cmp .eql X0 (.fn 6 (.pr (.int 0) X42))
noncomputable abbrev X45 : E := .and X11 (.and X12 (.and X43 X44))
noncomputable abbrev X46 : E := .var 27
noncomputable abbrev X47 : E := .cmp .lss X46 (.int 0)
noncomputable abbrev X48 : E := .not X47
noncomputable abbrev X49 : E := .cmp .eql X46 (.fn 6 (.pr X6 X42))
noncomputable abbrev X50 : E := .cmp .eql X42 (.int 0)
noncomputable abbrev X51 : E := .and X49 X50
noncomputable abbrev X52 : E := .not X43
noncomputable abbrev X53 : E := .not (.cmp .lss X1 X42)
noncomputable abbrev X54 : E := .var 24
noncomputable abbrev X55 : E := .cmp .lss X54 (.int 1)
noncomputable abbrev X56 : E := .not X55
noncomputable abbrev X57 : E := .cmp .eql X54 X42
noncomputable abbrev X58 : E := .var 23
noncomputable abbrev X59 : E := .cmp .eql X54 (.fn 0 X58)
noncomputable abbrev X60 : E := .and X57 X59
noncomputable abbrev X61 : E := .and X56 X60
noncomputable abbrev X62 : E := .and X49 X61
noncomputable abbrev X63 : E := .and X15 X62
noncomputable abbrev X64 : E := .and X13 X63
noncomputable abbrev X65 : E := .and X5 X64
noncomputable abbrev X66 : E := .and X8 X65
noncomputable abbrev X67 : E := .and X7 X66
noncomputable abbrev X68 : E := .not (.cmp .lss (.int 2147483648) X54)
noncomputable abbrev X69 : E := .cmp .lss (.fn 7 (.pr X0 X19)) (.fn 7 (.pr X0 X17))
noncomputable abbrev X70 : E := .cmp .lss X46 X4
noncomputable abbrev X71 : E := .and X15 X51
noncomputable abbrev X72 : E := .and X15 (.and X49 X60)
noncomputable abbrev X73 : E := .and X53 X61
noncomputable abbrev X74 : E := .cmp .lss (.fn 7 (.pr X0 X19)) (.int 0)
noncomputable abbrev X75 : E := .not X74
noncomputable abbrev X76 : E := .and X11 (.and X12 (.and X44 X53))
noncomputable abbrev X77 : E := .var 21
noncomputable abbrev X78 : E := .var 20
noncomputable abbrev X79 : E := .cmp .eql X77 (.fn 0 X78)
noncomputable abbrev X80 : E := .and (.not (.cmp .lss (.int 300) X77)) (.and (.not (.cmp .lss X77 (.int 1))) X79)
noncomputable abbrev X81 : E := .pr X42 X40
noncomputable abbrev X82 : E := .pr X78 X81
noncomputable abbrev X83 : E := .pr X58 X82
noncomputable abbrev X84 : E := .fn 121 X83
noncomputable abbrev X85 : E := .pr (.fn 40 X58) X40
noncomputable abbrev X86 : E := .fn 102 X85
noncomputable abbrev X87 : E := .and X11 (.and X12 (.and X28 X27))
noncomputable abbrev X88 : E := .fn 131 X14
noncomputable abbrev X89 : E := .and X11 (.and X12 (.and X88 X80))
noncomputable abbrev X90 : E := .wr .i64 (.ar .rem .u64 (.fn 1 (.pr X14 X46)) (.wr .u64 X77))
noncomputable abbrev X91 : E := .cmp .eql X46 (.fn 6 (.pr X6 X1))
noncomputable abbrev X92 : E := .cmp .lss (.var 22) X77
noncomputable abbrev X93 : E := .not X92
noncomputable abbrev X94 : E := .and X93 X80
noncomputable abbrev X95 : E := .ar .add .i64 X90 (.int 1)
noncomputable abbrev X96 : E := .cmp .eql (.var 22) X95
noncomputable abbrev X97 : E := .not (.cmp .lss (.int 2147483648) X90)
noncomputable abbrev X98 : E := .not X96
noncomputable abbrev X99 : E := .cmp .eql X90 (.int 0)
noncomputable abbrev X100 : E := .not X99
noncomputable abbrev X101 : E := .and X11 (.and X12 (.and X88 (.and X96 (.and X100 X94))))
noncomputable abbrev X102 : E := .cmp .lss (.fn 7 (.pr X77 X95)) (.int 0)
noncomputable abbrev X103 : E := .not X102
noncomputable abbrev X104 : E := .and X11 (.and X12 (.and X88 (.and X98 (.and X100 X94))))
noncomputable abbrev X105 : E := .and X11 (.and X12 X50)
noncomputable abbrev X106 : E := .ar .add .i64 X42 (.int 1)
noncomputable abbrev X107 : E := .cmp .eql (.fn 7 (.pr X77 X95)) (.int 0)
noncomputable abbrev X108 : E := .not X107
noncomputable abbrev X109 : E := .and X98 (.and X99 (.and X108 X80))
noncomputable abbrev X110 : E := .and X88 X109
noncomputable abbrev X111 : E := .and X12 X110
noncomputable abbrev X112 : E := .and X11 X111
noncomputable abbrev X113 : E := .and X13 X71
noncomputable abbrev X114 : E := .and X5 X113
noncomputable abbrev X115 : E := .and X8 X114
noncomputable abbrev X116 : E := .and X16 X115
noncomputable abbrev X117 : E := .and X43 X116
noncomputable abbrev X118 : E := .and X12 X117
noncomputable abbrev X119 : E := .and X11 X118
noncomputable abbrev X120 : E := .and X98 (.and X99 (.and X108 X94))
noncomputable abbrev X121 : E := .and X88 X120
noncomputable abbrev X122 : E := .and X12 X121
noncomputable abbrev X123 : E := .and X11 X122
noncomputable abbrev X124 : E := .cmp .eql (.ar .add .i64 X46 (.int 1)) (.fn 6 (.pr X6 X106))
noncomputable abbrev X125 : E := .and X11 (.and X12 (.and X43 (.and X16 X66)))
noncomputable abbrev X126 : E := .cmp .eql X0 (.fn 6 (.pr X77 X42))
noncomputable abbrev X127 : E := .and X50 (.and X126 X94)
noncomputable abbrev X128 : E := .cmp .eql X0 (.fn 6 (.pr (.int 0) X106))
noncomputable abbrev X129 : E := .fn 121 (.pr (.fn 10 (.int 0)) X82)
noncomputable abbrev X130 : E := .and X16 (.and X11 (.and X12 (.and X7 (.and X8 (.and X15 (.and X88 (.and X49 X127)))))))
noncomputable abbrev X131 : E := .pr X106 X40
noncomputable abbrev X132 : E := .pr (.fn 10 (.int 0)) X131
noncomputable abbrev X133 : E := .pr (.fn 23 (.pr (.fn 1 (.pr X78 X90)) (.fn 10 (.int 0)))) X132
noncomputable abbrev X134 : E := .fn 121 X133
noncomputable abbrev X135 : E := .cmp .lss (.fn 7 (.pr X1 X106)) (.fn 7 (.pr X1 X42))
noncomputable abbrev X136 : E := .cmp .lss (.fn 7 (.pr X1 X106)) (.int 0)
noncomputable abbrev X137 : E := .not X136
noncomputable abbrev X138 : E := .cmp .eql X0 (.fn 6 (.pr (.fn 7 (.pr X77 X95)) X106))
noncomputable abbrev X139 : E := .cmp .eql X0 (.fn 6 (.pr (.fn 6 (.pr X90 (.fn 7 (.pr X77 X95)))) X106))
noncomputable abbrev X140 : E := .cmp .eql X0 (.fn 6 (.pr X90 X106))
noncomputable abbrev X141 : E := .and X93 X79
noncomputable abbrev X142 : E := .and X59 X141
noncomputable abbrev X143 : E := .and X57 X142
noncomputable abbrev X144 : E := .and X56 X143
noncomputable abbrev X145 : E := .and X126 X144
noncomputable abbrev X146 : E := .and X49 X145
noncomputable abbrev X147 : E := .and X15 X146
noncomputable abbrev X148 : E := .and X13 X147
noncomputable abbrev X149 : E := .and X5 X148
noncomputable abbrev X150 : E := .and X8 X149
noncomputable abbrev X151 : E := .and X16 X150
noncomputable abbrev X152 : E := .pr (.fn 4 (.pr X78 (.pr X95 (.fn 6 (.pr X95 (.fn 7 (.pr X77 X95))))))) X131
noncomputable abbrev X153 : E := .pr (.fn 3 (.pr (.fn 4 (.pr X78 (.pr (.int 0) X90))) (.fn 4 (.pr X78 (.pr X95 (.fn 6 (.pr X95 (.fn 7 (.pr X77 X95))))))))) X131
noncomputable abbrev X154 : E := .pr (.fn 4 (.pr X78 (.pr (.int 0) X90))) X131
noncomputable abbrev X155 : E := .and X59 X94
noncomputable abbrev X156 : E := .and X57 X155
noncomputable abbrev X157 : E := .and X56 X156
noncomputable abbrev X158 : E := .and X84 X157
noncomputable abbrev X159 : E := .and X49 X158
noncomputable abbrev X160 : E := .and X88 X159
noncomputable abbrev X161 : E := .and X15 X160
noncomputable abbrev X162 : E := .and X13 X161
noncomputable abbrev X163 : E := .and X5 X162
noncomputable abbrev X164 : E := .and X8 X163
noncomputable abbrev X165 : E := .and X12 X164
noncomputable abbrev X166 : E := .and X11 X165
noncomputable abbrev X167 : E := .and X16 X166
noncomputable abbrev X168 : E := .pr (.fn 3 (.pr X58 (.fn 23 (.pr (.fn 1 (.pr X78 X90)) (.fn 10 (.int 0)))))) X132
noncomputable abbrev X169 : E := .fn 121 X168
noncomputable abbrev X170 : E := .and X126 X157
noncomputable abbrev X171 : E := .and X84 X170
noncomputable abbrev X172 : E := .and X49 X171
noncomputable abbrev X173 : E := .and X88 X172
noncomputable abbrev X174 : E := .and X15 X173
noncomputable abbrev X175 : E := .and X13 X174
noncomputable abbrev X176 : E := .and X5 X175
noncomputable abbrev X177 : E := .and X8 X176
noncomputable abbrev X178 : E := .and X12 X177
noncomputable abbrev X179 : E := .and X11 X178
noncomputable abbrev X180 : E := .and X16 X179
noncomputable abbrev X181 : E := .and X100 X180
namespace p8
noncomputable def f0 : E := (.imp (.cmp .lss X0 X1) X2)
theorem fact0 (ρ : Env) : E.B ρ f0 = true := by
  unfold f0
  rw [sm_B_imp]
  intro p0
  rw [z132]
  simp only [smA] at *
  omega
noncomputable def f1 : E := (.imp X3 X2)
theorem fact1 (ρ : Env) : E.B ρ f1 = true := by
  unfold f1
  rw [sm_B_imp]
  intro p0
  rw [z132]
  simp only [smA] at *
  omega
noncomputable def f2 : E := (.imp (.cmp .lss (.int 65536) X0) X2)
theorem fact2 (ρ : Env) : E.B ρ f2 = true := by
  unfold f2
  rw [sm_B_imp]
  intro p0
  rw [z132]
  simp only [smA] at *
  omega
noncomputable def f3 : E := (.imp (.cmp .lss X0 (.int 0)) X2)
theorem fact3 (ρ : Env) : E.B ρ f3 = true := by
  unfold f3
  rw [sm_B_imp]
  intro p0
  rw [z132]
  simp only [smA] at *
  omega
noncomputable def f4 : E := (.imp (.and X5 (.and X7 (.and X8 X9))) X10)
theorem fact4 (ρ : Env) : E.B ρ f4 = true := by
  unfold f4
  rw [sm_B_imp]
  simp only [sm_B_and]
  rintro ⟨p0, p1, p2, p3⟩
  try simp only [smA, smW] at *
  obtain ⟨a3, ea3, qa3⟩ := cs_i64 ((E.I ρ X4) - (E.I ρ X6))
  try simp only [ea3] at *
  omega
noncomputable def f5 : E := (.imp (.and (.not (.cmp .lss X0 (.int 0))) (.and (.not (.cmp .lss (.int 65536) X0)) (.and (.not X3) (.not (.cmp .lss X0 X1))))) X11)
theorem fact5 (ρ : Env) : E.B ρ f5 = true := by
  unfold f5
  rw [sm_B_imp]
  simp only [sm_B_and]
  rintro ⟨p0, p1, p2, p3⟩
  rw [sm_B_not]
  rw [z132]
  simp only [smA] at *
  omega
noncomputable def f6 : E := (.imp (.and X12 (.and (.not X9) (.and X7 (.and X8 (.and X5 (.and X13 X15)))))) X16)
theorem fact6 (ρ : Env) : E.B ρ f6 = true := by
  unfold f6
  rw [sm_B_imp]
  simp only [sm_B_and]
  rintro ⟨p0, p1, p2, p3, p4, p5, p6⟩
  have hb0 := t133_of p0
  try simp only [smA, smW] at *
  have n4 := fn0_nn (ρ := ρ) X14
  obtain ⟨a4, ea4, qa4⟩ := cs_i64 ((E.I ρ X4) - (E.I ρ X6))
  try simp only [ea4] at *
  omega
noncomputable def f7 : E := (.imp X18 (.cmp .eql X19 (.int 1)))
theorem fact7 (ρ : Env) : E.B ρ f7 = true := by
  unfold f7
  rw [sm_B_imp]
  intro p0
  try simp only [smA, smW] at *
  obtain ⟨a1, ea1, qa1⟩ := cs_i64 ((E.I ρ X17) + (1))
  try simp only [ea1] at *
  omega
noncomputable def f8 : E := (.imp X11 (.not X3))
theorem fact8 (ρ : Env) : E.B ρ f8 = true := by
  unfold f8
  rw [sm_B_imp]
  intro p0
  have hb0 := t132_not p0
  try simp only [smA, smW] at *
  omega
noncomputable def f9 : E := (.imp (.and X11 (.and X12 X27)) (.not (.cmp .lss X20 (.int 0))))
theorem fact9 (ρ : Env) : E.B ρ f9 = true := by
  unfold f9
  rw [sm_B_imp]
  simp only [sm_B_and]
  rintro ⟨p0, p1, p2, p3, p4⟩
  have hb0 := t132_not p0
  have hb1 := t133_of p1
  try simp only [smA, smW] at *
  have n2 := fn0_nn (ρ := ρ) X21
  omega
noncomputable def f10 : E := (.imp X36 (.not (.cmp .lss X20 (.int 1))))
theorem fact10 (ρ : Env) : E.B ρ f10 = true := by
  unfold f10
  rw [sm_B_imp]
  simp only [sm_B_and]
  rintro ⟨p0, p1, p2, p3, p4, p5, p6⟩
  have hb0 := t132_not p0
  have hb1 := t133_of p1
  try simp only [smA, smW] at *
  have n4 := fn0_nn (ρ := ρ) X21
  omega
noncomputable def f11 : E := (.imp X18 (.not (.cmp .lss X19 (.int 1))))
theorem fact11 (ρ : Env) : E.B ρ f11 = true := by
  unfold f11
  rw [sm_B_imp]
  intro p0
  try simp only [smA, smW] at *
  obtain ⟨a1, ea1, qa1⟩ := cs_i64 ((E.I ρ X17) + (1))
  try simp only [ea1] at *
  omega
noncomputable def f12 : E := (.imp (.and X18 (.and X11 X29)) (.cmp .eql X0 (.int 0)))
theorem fact12 (ρ : Env) : E.B ρ f12 = true := by
  unfold f12
  rw [sm_B_imp]
  simp only [sm_B_and]
  rintro ⟨p0, p1, p2⟩
  have hb1 := t132_not p1
  try simp only [smA, smW] at *
  omega
noncomputable def f13 : E := (.imp (.and X11 (.and X12 (.and (.not (.cmp .lss (.var 13) X20)) X27))) (.not (.cmp .lss (.var 13) (.int 0))))
theorem fact13 (ρ : Env) : E.B ρ f13 = true := by
  unfold f13
  rw [sm_B_imp]
  simp only [sm_B_and]
  rintro ⟨p0, p1, p2, p3, p4, p5⟩
  have hb0 := t132_not p0
  have hb1 := t133_of p1
  try simp only [smA, smW] at *
  have n3 := fn0_nn (ρ := ρ) X21
  omega
noncomputable def f14 : E := (.imp X36 (.not (.cmp .lss (.int 300) X20)))
theorem fact14 (ρ : Env) : E.B ρ f14 = true := by
  unfold f14
  rw [sm_B_imp]
  simp only [sm_B_and]
  rintro ⟨p0, p1, p2, p3, p4, p5, p6⟩
  have hb0 := t132_not p0
  have hb1 := t133_of p1
  try simp only [smA, smW] at *
  have n4 := fn0_nn (ρ := ρ) X21
  omega
noncomputable def f15 : E := (.imp (.and X18 (.and X11 X28)) (.not (.cmp .lss X0 X19)))
theorem fact15 (ρ : Env) : E.B ρ f15 = true := by
  unfold f15
  rw [sm_B_imp]
  simp only [sm_B_and]
  rintro ⟨p0, p1, p2⟩
  have hb1 := t132_not p1
  try simp only [smA, smW] at *
  obtain ⟨a2, ea2, qa2⟩ := cs_i64 ((E.I ρ X17) + (1))
  try simp only [ea2] at *
  omega
noncomputable def f16 : E := (.imp (.and X18 (.and X29 X37)) (.fn 121 (.pr (.fn 10 (.int 0)) (.pr (.fn 10 (.int 0)) X41))))
theorem fact16 (ρ : Env) : E.B ρ f16 = true := by
  unfold f16
  rw [sm_B_imp]
  simp only [sm_B_and]
  rintro ⟨p0, p1, p2, p3⟩
  have g0 : E.I ρ X0 = (0) := by
    have hb2 := t132_not p2
    have hb3 := t133_of p3
    try simp only [smA, smW] at *
    omega
  exact t121_zero (by rw [g0] <;> rfl) ints_nil rfl
noncomputable def f17 : E := (.imp (.and X11 (.and X12 (.and X28 (.and X22 X25)))) (.not (.cmp .lss (.int 2147483648) (.fn 6 (.pr X20 (.int 1))))))
theorem fact17 (ρ : Env) : E.B ρ f17 = true := by
  unfold f17
  rw [sm_B_imp]
  simp only [sm_B_and]
  rintro ⟨p0, p1, p2, p3, p4⟩
  have hb0 := t132_not p0
  have hb1 := t133_of p1
  try simp only [smA, smW] at *
  have n4 := fn0_nn (ρ := ρ) X21
  omega
noncomputable def f18 : E := (.imp (.and X18 X37) (.fn 103 (.pr (.fn 23 (.pr X17 (.fn 10 (.int 0)))) X19)))
theorem fact18 (ρ : Env) : E.B ρ f18 = true := by
  unfold f18
  rw [sm_B_imp]
  simp only [sm_B_and]
  rintro ⟨p0, p1, p2⟩
  obtain ⟨g0, g1⟩ : E.I ρ X17 = (0) ∧ E.I ρ X19 = (1) := by
    have hb1 := t132_not p1
    have hb2 := t133_of p2
    try simp only [smA, smW] at *
    obtain ⟨a1, ea1, qa1⟩ := cs_i64 ((E.I ρ X17) + (1))
    try simp only [ea1] at *
    omega
  exact t103_first (i := X17) (by simp only [ints_app, ints_cons, ints_nil, I_nth, List.nil_append]) g0 g1
noncomputable def f19 : E := (.imp X45 X48)
theorem fact19 (ρ : Env) : E.B ρ f19 = true := by
  unfold f19
  rw [sm_B_imp]
  simp only [sm_B_and]
  rintro ⟨p0, p1, p2, p3⟩
  have hb0 := t132_not p0
  have hb1 := t133_of p1
  try simp only [smA, smW] at *
  omega
noncomputable def f20 : E := (.imp (.and X11 (.and X12 (.and X8 X51))) X48)
theorem fact20 (ρ : Env) : E.B ρ f20 = true := by
  unfold f20
  rw [sm_B_imp]
  simp only [sm_B_and]
  rintro ⟨p0, p1, p2, p3, p4⟩
  have hb0 := t132_not p0
  have hb1 := t133_of p1
  try simp only [smA, smW] at *
  omega
noncomputable def f21 : E := (.imp (.and X11 (.and X12 (.and X52 (.and X49 (.and X53 X50))))) (.cmp .eql X1 (.int 0)))
theorem fact21 (ρ : Env) : E.B ρ f21 = true := by
  unfold f21
  rw [sm_B_imp]
  simp only [sm_B_and]
  rintro ⟨p0, p1, p2, p3, p4, p5⟩
  have hb0 := t132_not p0
  have hb1 := t133_of p1
  try simp only [smA, smW] at *
  omega
noncomputable def f22 : E := (.imp (.and X11 (.and X12 X67)) X48)
theorem fact22 (ρ : Env) : E.B ρ f22 = true := by
  unfold f22
  rw [sm_B_imp]
  simp only [sm_B_and]
  rintro ⟨p0, p1, p2, p3, p4, p5, p6, p7, p8, p9, p10⟩
  have hb0 := t132_not p0
  have hb1 := t133_of p1
  try simp only [smA, smW] at *
  have n3 := fn0_nn (ρ := ρ) X14
  have n7 := fn0_nn (ρ := ρ) X58
  omega
noncomputable def f23 : E := (.imp (.and X11 (.and X12 (.and X52 (.and X49 (.and X53 X60))))) X68)
theorem fact23 (ρ : Env) : E.B ρ f23 = true := by
  unfold f23
  rw [sm_B_imp]
  simp only [sm_B_and]
  rintro ⟨p0, p1, p2, p3, p4, p5, p6⟩
  have hb0 := t132_not p0
  have hb1 := t133_of p1
  try simp only [smA, smW] at *
  have n6 := fn0_nn (ρ := ρ) X58
  omega
noncomputable def f24 : E := (.imp X18 X69)
theorem fact24 (ρ : Env) : E.B ρ f24 = true := by
  unfold f24
  rw [sm_B_imp]
  intro p0
  try simp only [smA, smW] at *
  obtain ⟨a2, ea2, qa2⟩ := cs_i64 ((E.I ρ X17) + (1))
  try simp only [ea2] at *
  omega
noncomputable def f25 : E := (.imp X45 X70)
theorem fact25 (ρ : Env) : E.B ρ f25 = true := by
  unfold f25
  rw [sm_B_imp]
  simp only [sm_B_and]
  rintro ⟨p0, p1, p2, p3⟩
  have hb0 := t132_not p0
  have hb1 := t133_of p1
  try simp only [smA, smW] at *
  omega
noncomputable def f26 : E := (.imp (.and X11 (.and X12 X51)) (.cmp .eql X46 X6))
theorem fact26 (ρ : Env) : E.B ρ f26 = true := by
  unfold f26
  rw [sm_B_imp]
  simp only [sm_B_and]
  rintro ⟨p0, p1, p2, p3⟩
  have hb0 := t132_not p0
  have hb1 := t133_of p1
  try simp only [smA, smW] at *
  omega
noncomputable def f27 : E := (.imp (.and X11 (.and X12 (.and X43 (.and X16 (.and X7 X71))))) X70)
theorem fact27 (ρ : Env) : E.B ρ f27 = true := by
  unfold f27
  rw [sm_B_imp]
  simp only [sm_B_and]
  rintro ⟨p0, p1, p2, p3, p4, p5, p6, p7⟩
  have hb0 := t132_not p0
  have hb1 := t133_of p1
  try simp only [smA, smW] at *
  have n5 := fn0_nn (ρ := ρ) X14
  omega
noncomputable def f28 : E := (.imp (.and X11 (.and X12 (.and X43 (.and X16 X72)))) X70)
theorem fact28 (ρ : Env) : E.B ρ f28 = true := by
  unfold f28
  rw [sm_B_imp]
  simp only [sm_B_and]
  rintro ⟨p0, p1, p2, p3, p4, p5, p6, p7⟩
  have hb0 := t132_not p0
  have hb1 := t133_of p1
  try simp only [smA, smW] at *
  have n5 := fn0_nn (ρ := ρ) X14
  have n8 := fn0_nn (ρ := ρ) X58
  omega
noncomputable def f29 : E := (.imp (.and X11 (.and X12 (.and X52 (.and X49 X73)))) (.not (.cmp .lss X1 (.int 1))))
theorem fact29 (ρ : Env) : E.B ρ f29 = true := by
  unfold f29
  rw [sm_B_imp]
  simp only [sm_B_and]
  rintro ⟨p0, p1, p2, p3, p4, p5, p6, p7⟩
  have hb0 := t132_not p0
  have hb1 := t133_of p1
  try simp only [smA, smW] at *
  have n6 := fn0_nn (ρ := ρ) X58
  omega
noncomputable def f30 : E := (.imp (.and X18 (.and X11 X28)) X75)
theorem fact30 (ρ : Env) : E.B ρ f30 = true := by
  unfold f30
  rw [sm_B_imp]
  simp only [sm_B_and]
  rintro ⟨p0, p1, p2⟩
  have hb1 := t132_not p1
  try simp only [smA, smW] at *
  obtain ⟨a2, ea2, qa2⟩ := cs_i64 ((E.I ρ X17) + (1))
  try simp only [ea2] at *
  omega
noncomputable def f31 : E := (.imp X76 X52)
theorem fact31 (ρ : Env) : E.B ρ f31 = true := by
  unfold f31
  rw [sm_B_imp]
  simp only [sm_B_and]
  rintro ⟨p0, p1, p2, p3⟩
  have hb0 := t132_not p0
  have hb1 := t133_of p1
  try simp only [smA, smW] at *
  omega
noncomputable def f32 : E := (.imp (.and X11 (.and X12 X80)) (.not (.cmp .eql (.wr .u64 X77) (.int 0))))
theorem fact32 (ρ : Env) : E.B ρ f32 = true := by
  unfold f32
  rw [sm_B_imp]
  simp only [sm_B_and]
  rintro ⟨p0, p1, p2, p3, p4⟩
  have hb0 := t132_not p0
  have hb1 := t133_of p1
  try simp only [smA, smW] at *
  have n2 := fn0_nn (ρ := ρ) X78
  obtain ⟨a2, ea2, qa2⟩ := cs_u64 (E.I ρ X77)
  try simp only [ea2] at *
  omega
noncomputable def f33 : E := (.imp (.and X52 (.and X11 (.and X12 (.and X49 (.and X53 X84))))) X86)
theorem fact33 (ρ : Env) : E.B ρ f33 = true := by
  unfold f33
  rw [sm_B_imp]
  simp only [sm_B_and]
  rintro ⟨p0, p1, p2, p3, p4, p5⟩
  have g0 : E.I ρ X1 ≤ E.I ρ X42 := by
    have hb1 := t132_not p1
    have hb2 := t133_of p2
    try simp only [smA, smW] at *
    omega
  exact t102_end p5 (by (try simp only [sm_I_int]); omega) ints_sort
noncomputable def f34 : E := (.imp X87 (.cmp .eql (.fn 6 (.pr X20 (.int 1))) X19))
theorem fact34 (ρ : Env) : E.B ρ f34 = true := by
  unfold f34
  rw [sm_B_imp]
  simp only [sm_B_and]
  rintro ⟨p0, p1, p2, p3, p4, p5⟩
  have hb0 := t132_not p0
  have hb1 := t133_of p1
  try simp only [smA, smW] at *
  have n4 := fn0_nn (ρ := ρ) X21
  obtain ⟨a4, ea4, qa4⟩ := cs_i64 ((E.I ρ X17) + (1))
  try simp only [ea4] at *
  omega
noncomputable def f35 : E := (.imp (.and X11 (.and X12 (.and X29 (.and X22 (.and X31 X25))))) (.cmp .eql X0 (.fn 6 (.pr X20 (.int 0)))))
theorem fact35 (ρ : Env) : E.B ρ f35 = true := by
  unfold f35
  rw [sm_B_imp]
  simp only [sm_B_and]
  rintro ⟨p0, p1, p2, p3, p4, p5⟩
  have hb0 := t132_not p0
  have hb1 := t133_of p1
  try simp only [smA, smW] at *
  have n4 := fn0_nn (ρ := ρ) X21
  omega
noncomputable def f36 : E := (.imp (.and X11 (.and X12 (.and X44 (.and X53 X50)))) (.cmp .eql X1 (.int 0)))
theorem fact36 (ρ : Env) : E.B ρ f36 = true := by
  unfold f36
  rw [sm_B_imp]
  simp only [sm_B_and]
  rintro ⟨p0, p1, p2, p3, p4⟩
  have hb0 := t132_not p0
  have hb1 := t133_of p1
  try simp only [smA, smW] at *
  omega
noncomputable def f37 : E := (.imp (.and X11 (.and X12 (.and X44 X61))) X68)
theorem fact37 (ρ : Env) : E.B ρ f37 = true := by
  unfold f37
  rw [sm_B_imp]
  simp only [sm_B_and]
  rintro ⟨p0, p1, p2, p3, p4, p5⟩
  have hb0 := t132_not p0
  have hb1 := t133_of p1
  try simp only [smA, smW] at *
  have n4 := fn0_nn (ρ := ρ) X58
  omega
noncomputable def f38 : E := (.imp X89 (.not (.cmp .lss X90 (.int 0))))
theorem fact38 (ρ : Env) : E.B ρ f38 = true := by
  unfold f38
  rw [sm_B_imp]
  simp only [sm_B_and]
  rintro ⟨p0, p1, p2, p3, p4, p5⟩
  have hb0 := t132_not p0
  have hb1 := t133_of p1
  have hn0 := t131_nth p2 X46
  try simp only [smA, smW] at *
  have n2 := fn0_nn (ρ := ρ) X78
  obtain ⟨a3, ea3, qa3⟩ := cs_u64 (E.I ρ X77)
  try simp only [ea3] at *
  obtain ⟨a4, ea4, qa4⟩ := cs_rem (E.I ρ (.fn 1 (.pr X14 X46))) a3
  try simp only [ea4] at *
  obtain ⟨a5, ea5, qa5⟩ := cs_i64 a4
  try simp only [ea5] at *
  omega
noncomputable def f39 : E := (.imp (.and X11 (.and X12 (.and X52 (.and X49 (.and X53 X57))))) (.cmp .eql X54 X1))
theorem fact39 (ρ : Env) : E.B ρ f39 = true := by
  unfold f39
  rw [sm_B_imp]
  simp only [sm_B_and]
  rintro ⟨p0, p1, p2, p3, p4, p5⟩
  have hb0 := t132_not p0
  have hb1 := t133_of p1
  try simp only [smA, smW] at *
  omega
noncomputable def f40 : E := (.imp X87 (.not (.cmp .lss X19 (.int 1))))
theorem fact40 (ρ : Env) : E.B ρ f40 = true := by
  unfold f40
  rw [sm_B_imp]
  simp only [sm_B_and]
  rintro ⟨p0, p1, p2, p3, p4, p5⟩
  have hb0 := t132_not p0
  have hb1 := t133_of p1
  try simp only [smA, smW] at *
  have n4 := fn0_nn (ρ := ρ) X21
  obtain ⟨a4, ea4, qa4⟩ := cs_i64 ((E.I ρ X17) + (1))
  try simp only [ea4] at *
  omega
noncomputable def f41 : E := (.imp (.and X29 (.and (.fn 103 (.pr X21 X17)) (.and X31 X37))) (.fn 121 (.pr (.fn 10 (.int 0)) (.pr X21 X41))))
theorem fact41 (ρ : Env) : E.B ρ f41 = true := by
  unfold f41
  rw [sm_B_imp]
  simp only [sm_B_and]
  rintro ⟨p0, p1, p2, p3, p4⟩
  have g0 : E.I ρ X17 = E.I ρ X0 := by
    have hb3 := t132_not p3
    have hb4 := t133_of p4
    try simp only [smA, smW] at *
    omega
  exact t121_zero (by rw [← g0]; have h := p1; rw [z103] at h; exact h) ints_nil rfl
noncomputable def f42 : E := (.imp (.and X11 (.and X12 (.and X44 X73))) (.not (.cmp .lss X1 (.int 1))))
theorem fact42 (ρ : Env) : E.B ρ f42 = true := by
  unfold f42
  rw [sm_B_imp]
  simp only [sm_B_and]
  rintro ⟨p0, p1, p2, p3, p4, p5, p6⟩
  have hb0 := t132_not p0
  have hb1 := t133_of p1
  try simp only [smA, smW] at *
  have n5 := fn0_nn (ρ := ρ) X58
  omega
noncomputable def f43 : E := (.imp X89 (.cmp .lss X90 X77))
theorem fact43 (ρ : Env) : E.B ρ f43 = true := by
  unfold f43
  rw [sm_B_imp]
  simp only [sm_B_and]
  rintro ⟨p0, p1, p2, p3, p4, p5⟩
  have hb0 := t132_not p0
  have hb1 := t133_of p1
  have hn0 := t131_nth p2 X46
  try simp only [smA, smW] at *
  have n2 := fn0_nn (ρ := ρ) X78
  obtain ⟨a3, ea3, qa3⟩ := cs_u64 (E.I ρ X77)
  try simp only [ea3] at *
  obtain ⟨a4, ea4, qa4⟩ := cs_rem (E.I ρ (.fn 1 (.pr X14 X46))) a3
  try simp only [ea4] at *
  obtain ⟨a5, ea5, qa5⟩ := cs_i64 a4
  try simp only [ea5] at *
  omega
noncomputable def f44 : E := (.imp (.and X11 X59) (.cmp .eql X54 (.fn 0 (.fn 40 X58))))
theorem fact44 (ρ : Env) : E.B ρ f44 = true := by
  unfold f44
  rw [sm_B_imp]
  simp only [sm_B_and]
  rintro ⟨p0, p1⟩
  have hb0 := t132_not p0
  have ho0 := I_sortlen (ρ := ρ) (o := X58)
  try simp only [smA, smW] at *
  have n2 := fn0_nn (ρ := ρ) X58
  have n3 := fn0_nn (ρ := ρ) (.fn 40 X58)
  omega
noncomputable def f45 : E := (.imp X87 (.not (.cmp .lss X0 X19)))
theorem fact45 (ρ : Env) : E.B ρ f45 = true := by
  unfold f45
  rw [sm_B_imp]
  simp only [sm_B_and]
  rintro ⟨p0, p1, p2, p3, p4, p5⟩
  have hb0 := t132_not p0
  have hb1 := t133_of p1
  try simp only [smA, smW] at *
  have n4 := fn0_nn (ρ := ρ) X21
  obtain ⟨a4, ea4, qa4⟩ := cs_i64 ((E.I ρ X17) + (1))
  try simp only [ea4] at *
  omega
noncomputable def f46 : E := (.imp (.and (.fn 121 (.pr X58 (.pr (.fn 10 (.int 0)) X81))) X76) X86)
theorem fact46 (ρ : Env) : E.B ρ f46 = true := by
  unfold f46
  rw [sm_B_imp]
  simp only [sm_B_and]
  rintro ⟨p0, p1, p2, p3, p4⟩
  have g0 : E.I ρ X1 ≤ E.I ρ X42 := by
    have hb1 := t132_not p1
    have hb2 := t133_of p2
    try simp only [smA, smW] at *
    omega
  exact t102_end p0 (by (try simp only [sm_I_int]); omega) ints_sort
noncomputable def f47 : E := (.imp (.and X11 (.and X12 (.and (.not (.cmp .lss (.var 25) X54)) (.and X56 X59)))) (.not (.cmp .lss (.var 25) (.int 0))))
theorem fact47 (ρ : Env) : E.B ρ f47 = true := by
  unfold f47
  rw [sm_B_imp]
  simp only [sm_B_and]
  rintro ⟨p0, p1, p2, p3, p4⟩
  have hb0 := t132_not p0
  have hb1 := t133_of p1
  try simp only [smA, smW] at *
  have n3 := fn0_nn (ρ := ρ) X58
  omega
noncomputable def f48 : E := (.imp (.and X11 (.and X12 (.and X52 (.and X49 X53)))) X91)
theorem fact48 (ρ : Env) : E.B ρ f48 = true := by
  unfold f48
  rw [sm_B_imp]
  simp only [sm_B_and]
  rintro ⟨p0, p1, p2, p3, p4⟩
  have hb0 := t132_not p0
  have hb1 := t133_of p1
  try simp only [smA, smW] at *
  omega
noncomputable def f49 : E := (.imp (.and X11 X22) (.cmp .eql (.fn 6 (.pr X20 (.int 1))) (.fn 6 (.pr (.fn 0 X21) (.int 1)))))
theorem fact49 (ρ : Env) : E.B ρ f49 = true := by
  unfold f49
  rw [sm_B_imp]
  simp only [sm_B_and]
  rintro ⟨p0, p1⟩
  have hb0 := t132_not p0
  try simp only [smA, smW] at *
  have n2 := fn0_nn (ρ := ρ) X21
  omega
noncomputable def f50 : E := (.imp (.and X11 (.and X12 (.and X44 (.and X53 X57)))) (.cmp .eql X54 X1))
theorem fact50 (ρ : Env) : E.B ρ f50 = true := by
  unfold f50
  rw [sm_B_imp]
  simp only [sm_B_and]
  rintro ⟨p0, p1, p2, p3, p4⟩
  have hb0 := t132_not p0
  have hb1 := t133_of p1
  try simp only [smA, smW] at *
  omega
noncomputable def f51 : E := (.imp (.and X11 (.and X12 (.and X43 (.and X16 (.and X8 (.and X5 (.and X13 X72))))))) (.not (.cmp .lss (.int 2147483648) (.fn 6 (.pr X54 (.int 1))))))
theorem fact51 (ρ : Env) : E.B ρ f51 = true := by
  unfold f51
  rw [sm_B_imp]
  simp only [sm_B_and]
  rintro ⟨p0, p1, p2, p3, p4, p5, p6, p7, p8, p9, p10⟩
  have hb0 := t132_not p0
  have hb1 := t133_of p1
  try simp only [smA, smW] at *
  have n5 := fn0_nn (ρ := ρ) X14
  have n8 := fn0_nn (ρ := ρ) X58
  omega
noncomputable def f52 : E := (.imp (.and X28 (.and (.fn 103 (.pr X21 X17)) (.and X22 (.and X24 (.and X25 X37))))) (.fn 103 (.pr (.fn 3 (.pr X21 (.fn 23 (.pr X17 (.fn 10 (.int 0)))))) X19)))
theorem fact52 (ρ : Env) : E.B ρ f52 = true := by
  unfold f52
  rw [sm_B_imp]
  simp only [sm_B_and]
  rintro ⟨p0, p1, p2, p3, p4, p5, p6⟩
  obtain ⟨g0, g1⟩ : (0) ≤ E.I ρ X17 ∧ E.I ρ X19 = E.I ρ (.fn 6 (.pr X17 (.int 1))) := by
    have hb5 := t132_not p5
    have hb6 := t133_of p6
    try simp only [smA, smW] at *
    have n4 := fn0_nn (ρ := ρ) X21
    obtain ⟨a4, ea4, qa4⟩ := cs_i64 ((E.I ρ X17) + (1))
    try simp only [ea4] at *
    omega
  exact t103_step p1 (by simp only [ints_app, ints_cons, ints_nil, I_nth, List.nil_append]) (by (try simp only [sm_I_int]); omega) g1
noncomputable def f53 : E := (.imp (.and X11 (.and X12 (.and X88 X94))) (.not (.cmp .lss (.var 22) X90)))
theorem fact53 (ρ : Env) : E.B ρ f53 = true := by
  unfold f53
  rw [sm_B_imp]
  simp only [sm_B_and]
  rintro ⟨p0, p1, p2, p3, p4, p5, p6⟩
  have hb0 := t132_not p0
  have hb1 := t133_of p1
  have hn0 := t131_nth p2 X46
  try simp only [smA, smW] at *
  have n3 := fn0_nn (ρ := ρ) X78
  obtain ⟨a4, ea4, qa4⟩ := cs_u64 (E.I ρ X77)
  try simp only [ea4] at *
  obtain ⟨a5, ea5, qa5⟩ := cs_rem (E.I ρ (.fn 1 (.pr X14 X46))) a4
  try simp only [ea5] at *
  obtain ⟨a6, ea6, qa6⟩ := cs_i64 a5
  try simp only [ea6] at *
  omega
noncomputable def f54 : E := (.imp X89 (.not (.cmp .lss X95 (.int 0))))
theorem fact54 (ρ : Env) : E.B ρ f54 = true := by
  unfold f54
  rw [sm_B_imp]
  simp only [sm_B_and]
  rintro ⟨p0, p1, p2, p3, p4, p5⟩
  have hb0 := t132_not p0
  have hb1 := t133_of p1
  have hn0 := t131_nth p2 X46
  try simp only [smA, smW] at *
  have n2 := fn0_nn (ρ := ρ) X78
  obtain ⟨a3, ea3, qa3⟩ := cs_u64 (E.I ρ X77)
  try simp only [ea3] at *
  obtain ⟨a4, ea4, qa4⟩ := cs_rem (E.I ρ (.fn 1 (.pr X14 X46))) a3
  try simp only [ea4] at *
  obtain ⟨a5, ea5, qa5⟩ := cs_i64 a4
  try simp only [ea5] at *
  obtain ⟨a6, ea6, qa6⟩ := cs_i64 (a5 + (1))
  try simp only [ea6] at *
  omega
noncomputable def f55 : E := (.imp X87 X69)
theorem fact55 (ρ : Env) : E.B ρ f55 = true := by
  unfold f55
  rw [sm_B_imp]
  simp only [sm_B_and]
  rintro ⟨p0, p1, p2, p3, p4, p5⟩
  have hb0 := t132_not p0
  have hb1 := t133_of p1
  try simp only [smA, smW] at *
  have n4 := fn0_nn (ρ := ρ) X21
  obtain ⟨a4, ea4, qa4⟩ := cs_i64 ((E.I ρ X17) + (1))
  try simp only [ea4] at *
  omega
noncomputable def f56 : E := (.imp (.and X11 (.and X12 (.and X44 (.and X49 X53)))) X91)
theorem fact56 (ρ : Env) : E.B ρ f56 = true := by
  unfold f56
  rw [sm_B_imp]
  simp only [sm_B_and]
  rintro ⟨p0, p1, p2, p3, p4⟩
  have hb0 := t132_not p0
  have hb1 := t133_of p1
  try simp only [smA, smW] at *
  omega
noncomputable def f57 : E := (.imp X89 (.not (.cmp .lss X77 X95)))
theorem fact57 (ρ : Env) : E.B ρ f57 = true := by
  unfold f57
  rw [sm_B_imp]
  simp only [sm_B_and]
  rintro ⟨p0, p1, p2, p3, p4, p5⟩
  have hb0 := t132_not p0
  have hb1 := t133_of p1
  have hn0 := t131_nth p2 X46
  try simp only [smA, smW] at *
  have n2 := fn0_nn (ρ := ρ) X78
  obtain ⟨a3, ea3, qa3⟩ := cs_u64 (E.I ρ X77)
  try simp only [ea3] at *
  obtain ⟨a4, ea4, qa4⟩ := cs_rem (E.I ρ (.fn 1 (.pr X14 X46))) a3
  try simp only [ea4] at *
  obtain ⟨a5, ea5, qa5⟩ := cs_i64 a4
  try simp only [ea5] at *
  obtain ⟨a6, ea6, qa6⟩ := cs_i64 (a5 + (1))
  try simp only [ea6] at *
  omega
noncomputable def f58 : E := (.imp X87 X75)
theorem fact58 (ρ : Env) : E.B ρ f58 = true := by
  unfold f58
  rw [sm_B_imp]
  simp only [sm_B_and]
  rintro ⟨p0, p1, p2, p3, p4, p5⟩
  have hb0 := t132_not p0
  have hb1 := t133_of p1
  try simp only [smA, smW] at *
  have n4 := fn0_nn (ρ := ρ) X21
  obtain ⟨a4, ea4, qa4⟩ := cs_i64 ((E.I ρ X17) + (1))
  try simp only [ea4] at *
  omega
noncomputable def f59 : E := (.imp X89 (.not (.cmp .lss X77 X90)))
theorem fact59 (ρ : Env) : E.B ρ f59 = true := by
  unfold f59
  rw [sm_B_imp]
  simp only [sm_B_and]
  rintro ⟨p0, p1, p2, p3, p4, p5⟩
  have hb0 := t132_not p0
  have hb1 := t133_of p1
  have hn0 := t131_nth p2 X46
  try simp only [smA, smW] at *
  have n2 := fn0_nn (ρ := ρ) X78
  obtain ⟨a3, ea3, qa3⟩ := cs_u64 (E.I ρ X77)
  try simp only [ea3] at *
  obtain ⟨a4, ea4, qa4⟩ := cs_rem (E.I ρ (.fn 1 (.pr X14 X46))) a3
  try simp only [ea4] at *
  obtain ⟨a5, ea5, qa5⟩ := cs_i64 a4
  try simp only [ea5] at *
  omega
noncomputable def f60 : E := (.imp X11 (.not (.cmp .lss X77 (.fn 6 (.pr X95 (.fn 7 (.pr X77 X95)))))))
theorem fact60 (ρ : Env) : E.B ρ f60 = true := by
  unfold f60
  rw [sm_B_imp]
  intro p0
  have hb0 := t132_not p0
  try simp only [smA, smW] at *
  obtain ⟨a2, ea2, qa2⟩ := cs_u64 (E.I ρ X77)
  try simp only [ea2] at *
  obtain ⟨a3, ea3, qa3⟩ := cs_rem (E.I ρ (.fn 1 (.pr X14 X46))) a2
  try simp only [ea3] at *
  obtain ⟨a4, ea4, qa4⟩ := cs_i64 a3
  try simp only [ea4] at *
  obtain ⟨a5, ea5, qa5⟩ := cs_i64 (a4 + (1))
  try simp only [ea5] at *
  omega
noncomputable def f61 : E := (.imp (.and X11 (.and X12 (.and X88 (.and X96 X94)))) X97)
theorem fact61 (ρ : Env) : E.B ρ f61 = true := by
  unfold f61
  rw [sm_B_imp]
  simp only [sm_B_and]
  rintro ⟨p0, p1, p2, p3, p4, p5, p6, p7⟩
  have hb0 := t132_not p0
  have hb1 := t133_of p1
  have hn0 := t131_nth p2 X46
  try simp only [smA, smW] at *
  have n4 := fn0_nn (ρ := ρ) X78
  obtain ⟨a4, ea4, qa4⟩ := cs_u64 (E.I ρ X77)
  try simp only [ea4] at *
  obtain ⟨a5, ea5, qa5⟩ := cs_rem (E.I ρ (.fn 1 (.pr X14 X46))) a4
  try simp only [ea5] at *
  obtain ⟨a6, ea6, qa6⟩ := cs_i64 a5
  try simp only [ea6] at *
  obtain ⟨a7, ea7, qa7⟩ := cs_i64 (a6 + (1))
  try simp only [ea7] at *
  omega
noncomputable def f62 : E := (.imp (.and X11 (.and X12 (.and X88 (.and X98 X94)))) X97)
theorem fact62 (ρ : Env) : E.B ρ f62 = true := by
  unfold f62
  rw [sm_B_imp]
  simp only [sm_B_and]
  rintro ⟨p0, p1, p2, p3, p4, p5, p6, p7⟩
  have hb0 := t132_not p0
  have hb1 := t133_of p1
  have hn0 := t131_nth p2 X46
  try simp only [smA, smW] at *
  have n4 := fn0_nn (ρ := ρ) X78
  obtain ⟨a4, ea4, qa4⟩ := cs_u64 (E.I ρ X77)
  try simp only [ea4] at *
  obtain ⟨a5, ea5, qa5⟩ := cs_rem (E.I ρ (.fn 1 (.pr X14 X46))) a4
  try simp only [ea5] at *
  obtain ⟨a6, ea6, qa6⟩ := cs_i64 a5
  try simp only [ea6] at *
  obtain ⟨a7, ea7, qa7⟩ := cs_i64 (a6 + (1))
  try simp only [ea7] at *
  omega
noncomputable def f63 : E := (.imp X101 (.cmp .lss (.int 0) X90))
theorem fact63 (ρ : Env) : E.B ρ f63 = true := by
  unfold f63
  rw [sm_B_imp]
  simp only [sm_B_and]
  rintro ⟨p0, p1, p2, p3, p4, p5, p6, p7, p8⟩
  have hb0 := t132_not p0
  have hb1 := t133_of p1
  have hn0 := t131_nth p2 X46
  try simp only [smA, smW] at *
  have n4 := fn0_nn (ρ := ρ) X78
  obtain ⟨a4, ea4, qa4⟩ := cs_u64 (E.I ρ X77)
  try simp only [ea4] at *
  obtain ⟨a5, ea5, qa5⟩ := cs_rem (E.I ρ (.fn 1 (.pr X14 X46))) a4
  try simp only [ea5] at *
  obtain ⟨a6, ea6, qa6⟩ := cs_i64 a5
  try simp only [ea6] at *
  obtain ⟨a7, ea7, qa7⟩ := cs_i64 (a6 + (1))
  try simp only [ea7] at *
  omega
noncomputable def f64 : E := (.imp (.and X11 (.and X12 (.and X88 (.and X98 (.and X99 X80))))) X103)
theorem fact64 (ρ : Env) : E.B ρ f64 = true := by
  unfold f64
  rw [sm_B_imp]
  simp only [sm_B_and]
  rintro ⟨p0, p1, p2, p3, p4, p5, p6, p7⟩
  have hb0 := t132_not p0
  have hb1 := t133_of p1
  have hn0 := t131_nth p2 X46
  try simp only [smA, smW] at *
  have n4 := fn0_nn (ρ := ρ) X78
  obtain ⟨a4, ea4, qa4⟩ := cs_u64 (E.I ρ X77)
  try simp only [ea4] at *
  obtain ⟨a5, ea5, qa5⟩ := cs_rem (E.I ρ (.fn 1 (.pr X14 X46))) a4
  try simp only [ea5] at *
  obtain ⟨a6, ea6, qa6⟩ := cs_i64 a5
  try simp only [ea6] at *
  obtain ⟨a7, ea7, qa7⟩ := cs_i64 (a6 + (1))
  try simp only [ea7] at *
  omega
noncomputable def f65 : E := (.imp X104 (.cmp .lss (.int 0) X90))
theorem fact65 (ρ : Env) : E.B ρ f65 = true := by
  unfold f65
  rw [sm_B_imp]
  simp only [sm_B_and]
  rintro ⟨p0, p1, p2, p3, p4, p5, p6, p7, p8⟩
  have hb0 := t132_not p0
  have hb1 := t133_of p1
  have hn0 := t131_nth p2 X46
  try simp only [smA, smW] at *
  have n4 := fn0_nn (ρ := ρ) X78
  obtain ⟨a4, ea4, qa4⟩ := cs_u64 (E.I ρ X77)
  try simp only [ea4] at *
  obtain ⟨a5, ea5, qa5⟩ := cs_rem (E.I ρ (.fn 1 (.pr X14 X46))) a4
  try simp only [ea5] at *
  obtain ⟨a6, ea6, qa6⟩ := cs_i64 a5
  try simp only [ea6] at *
  obtain ⟨a7, ea7, qa7⟩ := cs_i64 (a6 + (1))
  try simp only [ea7] at *
  omega
noncomputable def f66 : E := (.imp (.and X11 (.and X12 (.and X88 (.and X98 (.and X100 X80))))) X103)
theorem fact66 (ρ : Env) : E.B ρ f66 = true := by
  unfold f66
  rw [sm_B_imp]
  simp only [sm_B_and]
  rintro ⟨p0, p1, p2, p3, p4, p5, p6, p7⟩
  have hb0 := t132_not p0
  have hb1 := t133_of p1
  have hn0 := t131_nth p2 X46
  try simp only [smA, smW] at *
  have n4 := fn0_nn (ρ := ρ) X78
  obtain ⟨a4, ea4, qa4⟩ := cs_u64 (E.I ρ X77)
  try simp only [ea4] at *
  obtain ⟨a5, ea5, qa5⟩ := cs_rem (E.I ρ (.fn 1 (.pr X14 X46))) a4
  try simp only [ea5] at *
  obtain ⟨a6, ea6, qa6⟩ := cs_i64 a5
  try simp only [ea6] at *
  obtain ⟨a7, ea7, qa7⟩ := cs_i64 (a6 + (1))
  try simp only [ea7] at *
  omega
noncomputable def f67 : E := (.imp X105 (.cmp .eql X106 (.int 1)))
theorem fact67 (ρ : Env) : E.B ρ f67 = true := by
  unfold f67
  rw [sm_B_imp]
  simp only [sm_B_and]
  rintro ⟨p0, p1, p2⟩
  have hb0 := t132_not p0
  have hb1 := t133_of p1
  try simp only [smA, smW] at *
  obtain ⟨a1, ea1, qa1⟩ := cs_i64 ((E.I ρ X42) + (1))
  try simp only [ea1] at *
  omega
noncomputable def f68 : E := (.imp (.and X11 (.and X12 (.and X88 (.and X98 (.and X99 X94))))) (.not (.cmp .lss (.int 2147483648) (.fn 7 (.pr X77 X95)))))
theorem fact68 (ρ : Env) : E.B ρ f68 = true := by
  unfold f68
  rw [sm_B_imp]
  simp only [sm_B_and]
  rintro ⟨p0, p1, p2, p3, p4, p5, p6, p7, p8⟩
  have hb0 := t132_not p0
  have hb1 := t133_of p1
  have hn0 := t131_nth p2 X46
  try simp only [smA, smW] at *
  have n4 := fn0_nn (ρ := ρ) X78
  obtain ⟨a4, ea4, qa4⟩ := cs_u64 (E.I ρ X77)
  try simp only [ea4] at *
  obtain ⟨a5, ea5, qa5⟩ := cs_rem (E.I ρ (.fn 1 (.pr X14 X46))) a4
  try simp only [ea5] at *
  obtain ⟨a6, ea6, qa6⟩ := cs_i64 a5
  try simp only [ea6] at *
  obtain ⟨a7, ea7, qa7⟩ := cs_i64 (a6 + (1))
  try simp only [ea7] at *
  omega
noncomputable def f69 : E := (.imp X105 (.not (.cmp .lss X106 (.int 0))))
theorem fact69 (ρ : Env) : E.B ρ f69 = true := by
  unfold f69
  rw [sm_B_imp]
  simp only [sm_B_and]
  rintro ⟨p0, p1, p2⟩
  have hb0 := t132_not p0
  have hb1 := t133_of p1
  try simp only [smA, smW] at *
  obtain ⟨a1, ea1, qa1⟩ := cs_i64 ((E.I ρ X42) + (1))
  try simp only [ea1] at *
  omega
noncomputable def f70 : E := (.imp X112 (.cmp .lss (.int 0) (.fn 7 (.pr X77 X95))))
theorem fact70 (ρ : Env) : E.B ρ f70 = true := by
  unfold f70
  rw [sm_B_imp]
  simp only [sm_B_and]
  rintro ⟨p0, p1, p2, p3, p4, p5, p6, p7, p8⟩
  have hb0 := t132_not p0
  have hb1 := t133_of p1
  have hn0 := t131_nth p2 X46
  try simp only [smA, smW] at *
  have n4 := fn0_nn (ρ := ρ) X78
  obtain ⟨a4, ea4, qa4⟩ := cs_u64 (E.I ρ X77)
  try simp only [ea4] at *
  obtain ⟨a5, ea5, qa5⟩ := cs_rem (E.I ρ (.fn 1 (.pr X14 X46))) a4
  try simp only [ea5] at *
  obtain ⟨a6, ea6, qa6⟩ := cs_i64 a5
  try simp only [ea6] at *
  obtain ⟨a7, ea7, qa7⟩ := cs_i64 (a6 + (1))
  try simp only [ea7] at *
  omega
noncomputable def f71 : E := (.imp X104 (.not (.cmp .lss (.int 2147483648) (.fn 6 (.pr X90 (.fn 7 (.pr X77 X95)))))))
theorem fact71 (ρ : Env) : E.B ρ f71 = true := by
  unfold f71
  rw [sm_B_imp]
  simp only [sm_B_and]
  rintro ⟨p0, p1, p2, p3, p4, p5, p6, p7, p8⟩
  have hb0 := t132_not p0
  have hb1 := t133_of p1
  have hn0 := t131_nth p2 X46
  try simp only [smA, smW] at *
  have n4 := fn0_nn (ρ := ρ) X78
  obtain ⟨a4, ea4, qa4⟩ := cs_u64 (E.I ρ X77)
  try simp only [ea4] at *
  obtain ⟨a5, ea5, qa5⟩ := cs_rem (E.I ρ (.fn 1 (.pr X14 X46))) a4
  try simp only [ea5] at *
  obtain ⟨a6, ea6, qa6⟩ := cs_i64 a5
  try simp only [ea6] at *
  obtain ⟨a7, ea7, qa7⟩ := cs_i64 (a6 + (1))
  try simp only [ea7] at *
  omega
noncomputable def f72 : E := (.imp X119 (.not (.cmp .lss X1 X106)))
theorem fact72 (ρ : Env) : E.B ρ f72 = true := by
  unfold f72
  rw [sm_B_imp]
  simp only [sm_B_and]
  rintro ⟨p0, p1, p2, p3, p4, p5, p6, p7, p8, p9⟩
  have hb0 := t132_not p0
  have hb1 := t133_of p1
  try simp only [smA, smW] at *
  have n5 := fn0_nn (ρ := ρ) X14
  obtain ⟨a6, ea6, qa6⟩ := cs_i64 ((E.I ρ X42) + (1))
  try simp only [ea6] at *
  omega
noncomputable def f73 : E := (.imp (.and X11 (.and X12 X59)) (.cmp .eql (.fn 6 (.pr X54 (.int 1))) (.fn 6 (.pr (.fn 0 X58) (.int 1)))))
theorem fact73 (ρ : Env) : E.B ρ f73 = true := by
  unfold f73
  rw [sm_B_imp]
  simp only [sm_B_and]
  rintro ⟨p0, p1, p2⟩
  have hb0 := t132_not p0
  have hb1 := t133_of p1
  try simp only [smA, smW] at *
  have n2 := fn0_nn (ρ := ρ) X58
  omega
noncomputable def f74 : E := (.imp X123 (.cmp .eql (.fn 7 (.pr X77 X95)) (.fn 0 (.fn 4 (.pr X78 (.pr X95 (.fn 6 (.pr X95 (.fn 7 (.pr X77 X95))))))))))
theorem fact74 (ρ : Env) : E.B ρ f74 = true := by
  unfold f74
  rw [sm_B_imp]
  simp only [sm_B_and]
  rintro ⟨p0, p1, p2, p3, p4, p5, p6, p7, p8, p9⟩
  have hb0 := t132_not p0
  have hb1 := t133_of p1
  have hn0 := t131_nth p2 X46
  have hs1 := I_sublen (ρ := ρ) (l := X78) (a := X95) (b := (.fn 6 (.pr X95 (.fn 7 (.pr X77 X95)))))
  try simp only [smA, smW] at *
  have n4 := fn0_nn (ρ := ρ) X78
  have n5 := fn0_nn (ρ := ρ) (.fn 4 (.pr X78 (.pr X95 (.fn 6 (.pr X95 (.fn 7 (.pr X77 X95)))))))
  obtain ⟨a5, ea5, qa5⟩ := cs_u64 (E.I ρ X77)
  try simp only [ea5] at *
  obtain ⟨a6, ea6, qa6⟩ := cs_rem (E.I ρ (.fn 1 (.pr X14 X46))) a5
  try simp only [ea6] at *
  obtain ⟨a7, ea7, qa7⟩ := cs_i64 a6
  try simp only [ea7] at *
  obtain ⟨a8, ea8, qa8⟩ := cs_i64 (a7 + (1))
  try simp only [ea8] at *
  omega
noncomputable def f75 : E := (.imp X104 (.cmp .eql (.fn 6 (.pr X90 (.fn 7 (.pr X77 X95)))) (.fn 6 (.pr (.fn 0 (.fn 4 (.pr X78 (.pr (.int 0) X90)))) (.fn 0 (.fn 4 (.pr X78 (.pr X95 (.fn 6 (.pr X95 (.fn 7 (.pr X77 X95))))))))))))
theorem fact75 (ρ : Env) : E.B ρ f75 = true := by
  unfold f75
  rw [sm_B_imp]
  simp only [sm_B_and]
  rintro ⟨p0, p1, p2, p3, p4, p5, p6, p7, p8⟩
  have hb0 := t132_not p0
  have hb1 := t133_of p1
  have hn0 := t131_nth p2 X46
  have hs1 := I_sublen (ρ := ρ) (l := X78) (a := (.int 0)) (b := X90)
  have hs2 := I_sublen (ρ := ρ) (l := X78) (a := X95) (b := (.fn 6 (.pr X95 (.fn 7 (.pr X77 X95)))))
  try simp only [smA, smW] at *
  have n4 := fn0_nn (ρ := ρ) X78
  have n5 := fn0_nn (ρ := ρ) (.fn 4 (.pr X78 (.pr (.int 0) X90)))
  have n6 := fn0_nn (ρ := ρ) (.fn 4 (.pr X78 (.pr X95 (.fn 6 (.pr X95 (.fn 7 (.pr X77 X95)))))))
  obtain ⟨a6, ea6, qa6⟩ := cs_u64 (E.I ρ X77)
  try simp only [ea6] at *
  obtain ⟨a7, ea7, qa7⟩ := cs_rem (E.I ρ (.fn 1 (.pr X14 X46))) a6
  try simp only [ea7] at *
  obtain ⟨a8, ea8, qa8⟩ := cs_i64 a7
  try simp only [ea8] at *
  obtain ⟨a9, ea9, qa9⟩ := cs_i64 (a8 + (1))
  try simp only [ea9] at *
  omega
noncomputable def f76 : E := (.imp (.and X11 (.and X12 (.and X7 X115))) X124)
theorem fact76 (ρ : Env) : E.B ρ f76 = true := by
  unfold f76
  rw [sm_B_imp]
  simp only [sm_B_and]
  rintro ⟨p0, p1, p2, p3, p4, p5, p6, p7, p8⟩
  have hb0 := t132_not p0
  have hb1 := t133_of p1
  try simp only [smA, smW] at *
  have n3 := fn0_nn (ρ := ρ) X14
  obtain ⟨a5, ea5, qa5⟩ := cs_i64 ((E.I ρ X46) + (1))
  try simp only [ea5] at *
  obtain ⟨a6, ea6, qa6⟩ := cs_i64 ((E.I ρ X42) + (1))
  try simp only [ea6] at *
  omega
noncomputable def f77 : E := (.imp X125 (.cmp .eql (.fn 6 (.pr X54 (.int 1))) X106))
theorem fact77 (ρ : Env) : E.B ρ f77 = true := by
  unfold f77
  rw [sm_B_imp]
  simp only [sm_B_and]
  rintro ⟨p0, p1, p2, p3, p4, p5, p6, p7, p8, p9, p10, p11⟩
  have hb0 := t132_not p0
  have hb1 := t133_of p1
  try simp only [smA, smW] at *
  have n5 := fn0_nn (ρ := ρ) X14
  have n8 := fn0_nn (ρ := ρ) X58
  obtain ⟨a8, ea8, qa8⟩ := cs_i64 ((E.I ρ X42) + (1))
  try simp only [ea8] at *
  omega
noncomputable def f78 : E := (.imp X112 (.not (.cmp .lss (.fn 7 (.pr X77 X95)) (.int 1))))
theorem fact78 (ρ : Env) : E.B ρ f78 = true := by
  unfold f78
  rw [sm_B_imp]
  simp only [sm_B_and]
  rintro ⟨p0, p1, p2, p3, p4, p5, p6, p7, p8⟩
  have hb0 := t132_not p0
  have hb1 := t133_of p1
  have hn0 := t131_nth p2 X46
  try simp only [smA, smW] at *
  have n4 := fn0_nn (ρ := ρ) X78
  obtain ⟨a4, ea4, qa4⟩ := cs_u64 (E.I ρ X77)
  try simp only [ea4] at *
  obtain ⟨a5, ea5, qa5⟩ := cs_rem (E.I ρ (.fn 1 (.pr X14 X46))) a4
  try simp only [ea5] at *
  obtain ⟨a6, ea6, qa6⟩ := cs_i64 a5
  try simp only [ea6] at *
  obtain ⟨a7, ea7, qa7⟩ := cs_i64 (a6 + (1))
  try simp only [ea7] at *
  omega
noncomputable def f79 : E := (.imp X104 (.not (.cmp .lss (.fn 6 (.pr X90 (.fn 7 (.pr X77 X95)))) (.int 1))))
theorem fact79 (ρ : Env) : E.B ρ f79 = true := by
  unfold f79
  rw [sm_B_imp]
  simp only [sm_B_and]
  rintro ⟨p0, p1, p2, p3, p4, p5, p6, p7, p8⟩
  have hb0 := t132_not p0
  have hb1 := t133_of p1
  have hn0 := t131_nth p2 X46
  try simp only [smA, smW] at *
  have n4 := fn0_nn (ρ := ρ) X78
  obtain ⟨a4, ea4, qa4⟩ := cs_u64 (E.I ρ X77)
  try simp only [ea4] at *
  obtain ⟨a5, ea5, qa5⟩ := cs_rem (E.I ρ (.fn 1 (.pr X14 X46))) a4
  try simp only [ea5] at *
  obtain ⟨a6, ea6, qa6⟩ := cs_i64 a5
  try simp only [ea6] at *
  obtain ⟨a7, ea7, qa7⟩ := cs_i64 (a6 + (1))
  try simp only [ea7] at *
  omega
noncomputable def f80 : E := (.imp (.and X11 (.and X12 (.and X88 (.and X98 (.and X99 (.and X107 X127)))))) X128)
theorem fact80 (ρ : Env) : E.B ρ f80 = true := by
  unfold f80
  rw [sm_B_imp]
  simp only [sm_B_and]
  rintro ⟨p0, p1, p2, p3, p4, p5, p6, p7, p8, p9, p10, p11⟩
  have hb0 := t132_not p0
  have hb1 := t133_of p1
  have hn0 := t131_nth p2 X46
  try simp only [smA, smW] at *
  have n6 := fn0_nn (ρ := ρ) X78
  obtain ⟨a6, ea6, qa6⟩ := cs_u64 (E.I ρ X77)
  try simp only [ea6] at *
  obtain ⟨a7, ea7, qa7⟩ := cs_rem (E.I ρ (.fn 1 (.pr X14 X46))) a6
  try simp only [ea7] at *
  obtain ⟨a8, ea8, qa8⟩ := cs_i64 a7
  try simp only [ea8] at *
  obtain ⟨a9, ea9, qa9⟩ := cs_i64 (a8 + (1))
  try simp only [ea9] at *
  obtain ⟨a10, ea10, qa10⟩ := cs_i64 ((E.I ρ X42) + (1))
  try simp only [ea10] at *
  omega
noncomputable def f81 : E := (.imp (.and X11 (.and X12 (.and X88 (.and X96 (.and X99 X127))))) X128)
theorem fact81 (ρ : Env) : E.B ρ f81 = true := by
  unfold f81
  rw [sm_B_imp]
  simp only [sm_B_and]
  rintro ⟨p0, p1, p2, p3, p4, p5, p6, p7, p8, p9, p10⟩
  have hb0 := t132_not p0
  have hb1 := t133_of p1
  have hn0 := t131_nth p2 X46
  try simp only [smA, smW] at *
  have n6 := fn0_nn (ρ := ρ) X78
  obtain ⟨a6, ea6, qa6⟩ := cs_u64 (E.I ρ X77)
  try simp only [ea6] at *
  obtain ⟨a7, ea7, qa7⟩ := cs_rem (E.I ρ (.fn 1 (.pr X14 X46))) a6
  try simp only [ea7] at *
  obtain ⟨a8, ea8, qa8⟩ := cs_i64 a7
  try simp only [ea8] at *
  obtain ⟨a9, ea9, qa9⟩ := cs_i64 (a8 + (1))
  try simp only [ea9] at *
  obtain ⟨a10, ea10, qa10⟩ := cs_i64 ((E.I ρ X42) + (1))
  try simp only [ea10] at *
  omega
noncomputable def f82 : E := (.imp X125 (.not (.cmp .lss X106 (.int 0))))
theorem fact82 (ρ : Env) : E.B ρ f82 = true := by
  unfold f82
  rw [sm_B_imp]
  simp only [sm_B_and]
  rintro ⟨p0, p1, p2, p3, p4, p5, p6, p7, p8, p9, p10, p11⟩
  have hb0 := t132_not p0
  have hb1 := t133_of p1
  try simp only [smA, smW] at *
  have n5 := fn0_nn (ρ := ρ) X14
  have n8 := fn0_nn (ρ := ρ) X58
  obtain ⟨a8, ea8, qa8⟩ := cs_i64 ((E.I ρ X42) + (1))
  try simp only [ea8] at *
  omega
noncomputable def f83 : E := (.imp X123 (.not (.cmp .lss (.int 300) (.fn 7 (.pr X77 X95)))))
theorem fact83 (ρ : Env) : E.B ρ f83 = true := by
  unfold f83
  rw [sm_B_imp]
  simp only [sm_B_and]
  rintro ⟨p0, p1, p2, p3, p4, p5, p6, p7, p8, p9⟩
  have hb0 := t132_not p0
  have hb1 := t133_of p1
  have hn0 := t131_nth p2 X46
  try simp only [smA, smW] at *
  have n4 := fn0_nn (ρ := ρ) X78
  obtain ⟨a4, ea4, qa4⟩ := cs_u64 (E.I ρ X77)
  try simp only [ea4] at *
  obtain ⟨a5, ea5, qa5⟩ := cs_rem (E.I ρ (.fn 1 (.pr X14 X46))) a4
  try simp only [ea5] at *
  obtain ⟨a6, ea6, qa6⟩ := cs_i64 a5
  try simp only [ea6] at *
  obtain ⟨a7, ea7, qa7⟩ := cs_i64 (a6 + (1))
  try simp only [ea7] at *
  omega
noncomputable def f84 : E := (.imp X104 (.not (.cmp .lss (.int 300) (.fn 6 (.pr X90 (.fn 7 (.pr X77 X95)))))))
theorem fact84 (ρ : Env) : E.B ρ f84 = true := by
  unfold f84
  rw [sm_B_imp]
  simp only [sm_B_and]
  rintro ⟨p0, p1, p2, p3, p4, p5, p6, p7, p8⟩
  have hb0 := t132_not p0
  have hb1 := t133_of p1
  have hn0 := t131_nth p2 X46
  try simp only [smA, smW] at *
  have n4 := fn0_nn (ρ := ρ) X78
  obtain ⟨a4, ea4, qa4⟩ := cs_u64 (E.I ρ X77)
  try simp only [ea4] at *
  obtain ⟨a5, ea5, qa5⟩ := cs_rem (E.I ρ (.fn 1 (.pr X14 X46))) a4
  try simp only [ea5] at *
  obtain ⟨a6, ea6, qa6⟩ := cs_i64 a5
  try simp only [ea6] at *
  obtain ⟨a7, ea7, qa7⟩ := cs_i64 (a6 + (1))
  try simp only [ea7] at *
  omega
noncomputable def f85 : E := (.imp (.and X129 (.and X43 (.and X98 (.and X99 (.and X107 X130))))) X134)
theorem fact85 (ρ : Env) : E.B ρ f85 = true := by
  unfold f85
  rw [sm_B_imp]
  simp only [sm_B_and]
  rintro ⟨p0, p1, p2, p3, p4, p5, p6, p7, p8, p9, p10, p11, p12, p13, p14, p15, p16, p17, p18⟩
  obtain ⟨g0, g1, g2, g3, g4, g5, g6, k0, k1, k2, g7, g8, g9, e1, e2⟩ : (0) ≤ E.I ρ X42 ∧ E.I ρ X42 < E.I ρ X1 ∧ (0) ≤ E.I ρ X6 ∧ E.I ρ X46 = E.I ρ (.fn 6 (.pr X6 X42)) ∧ E.I ρ X46 < E.I ρ (.fn 0 X14) ∧ (1) ≤ E.I ρ (.fn 0 X78) ∧ E.I ρ X77 = E.I ρ (.fn 0 X78) ∧ (0) ≤ E.I ρ (.fn 1 (.pr X14 X46)) ∧ (0) < E.I ρ (.fn 0 X78) ∧ E.I ρ (.fn 0 X78) < (9223372036854775808) ∧ (0) ≤ E.I ρ X90 ∧ E.I ρ X90 < E.I ρ (.fn 0 X78) ∧ E.I ρ X106 = E.I ρ (.fn 6 (.pr X42 (.int 1))) ∧ E.I ρ X90 = (0) ∧ E.I ρ (.fn 0 X78) = (1) := by
    have hb6 := t132_not p6
    have hb7 := t133_of p7
    have hn0 := t131_nth p11 X46
    try simp only [smA, smW] at *
    have n8 := fn0_nn (ρ := ρ) X14
    have n11 := fn0_nn (ρ := ρ) X78
    obtain ⟨a11, ea11, qa11⟩ := cs_u64 (E.I ρ X77)
    try simp only [ea11] at *
    obtain ⟨a12, ea12, qa12⟩ := cs_rem (E.I ρ (.fn 1 (.pr X14 X46))) a11
    try simp only [ea12] at *
    obtain ⟨a13, ea13, qa13⟩ := cs_i64 a12
    try simp only [ea13] at *
    obtain ⟨a14, ea14, qa14⟩ := cs_i64 (a13 + (1))
    try simp only [ea14] at *
    obtain ⟨a15, ea15, qa15⟩ := cs_i64 ((E.I ρ X42) + (1))
    try simp only [ea15] at *
    omega
  exact t121_step (p := X46) (j := X90) p0 (by (try simp only [sm_I_int]); omega) g1 (by (try simp only [sm_I_int]); omega) g3 g4 (by (try simp only [sm_I_int]); omega) (choose_val (b := (.fn 0 X78)) (by (try simp only [sm_I_int]); omega) (by (try simp only [sm_I_int]); omega) (by (try simp only [sm_I_int]); omega) g6) (by (try simp only [sm_I_int]); omega) g8 g9 (by simp only [ints_app, ints_cons, ints_nil, I_nth, List.nil_append]) (erase_none (j := X90) e1 e2)
noncomputable def f86 : E := (.imp (.and X129 (.and X43 (.and X96 (.and X99 X130)))) X134)
theorem fact86 (ρ : Env) : E.B ρ f86 = true := by
  unfold f86
  rw [sm_B_imp]
  simp only [sm_B_and]
  rintro ⟨p0, p1, p2, p3, p4, p5, p6, p7, p8, p9, p10, p11, p12, p13, p14, p15, p16, p17⟩
  obtain ⟨g0, g1, g2, g3, g4, g5, g6, k0, k1, k2, g7, g8, g9, e1, e2⟩ : (0) ≤ E.I ρ X42 ∧ E.I ρ X42 < E.I ρ X1 ∧ (0) ≤ E.I ρ X6 ∧ E.I ρ X46 = E.I ρ (.fn 6 (.pr X6 X42)) ∧ E.I ρ X46 < E.I ρ (.fn 0 X14) ∧ (1) ≤ E.I ρ (.fn 0 X78) ∧ E.I ρ X77 = E.I ρ (.fn 0 X78) ∧ (0) ≤ E.I ρ (.fn 1 (.pr X14 X46)) ∧ (0) < E.I ρ (.fn 0 X78) ∧ E.I ρ (.fn 0 X78) < (9223372036854775808) ∧ (0) ≤ E.I ρ X90 ∧ E.I ρ X90 < E.I ρ (.fn 0 X78) ∧ E.I ρ X106 = E.I ρ (.fn 6 (.pr X42 (.int 1))) ∧ E.I ρ X90 = (0) ∧ E.I ρ (.fn 0 X78) = (1) := by
    have hb5 := t132_not p5
    have hb6 := t133_of p6
    have hn0 := t131_nth p10 X46
    try simp only [smA, smW] at *
    have n8 := fn0_nn (ρ := ρ) X14
    have n11 := fn0_nn (ρ := ρ) X78
    obtain ⟨a11, ea11, qa11⟩ := cs_u64 (E.I ρ X77)
    try simp only [ea11] at *
    obtain ⟨a12, ea12, qa12⟩ := cs_rem (E.I ρ (.fn 1 (.pr X14 X46))) a11
    try simp only [ea12] at *
    obtain ⟨a13, ea13, qa13⟩ := cs_i64 a12
    try simp only [ea13] at *
    obtain ⟨a14, ea14, qa14⟩ := cs_i64 (a13 + (1))
    try simp only [ea14] at *
    obtain ⟨a15, ea15, qa15⟩ := cs_i64 ((E.I ρ X42) + (1))
    try simp only [ea15] at *
    omega
  exact t121_step (p := X46) (j := X90) p0 (by (try simp only [sm_I_int]); omega) g1 (by (try simp only [sm_I_int]); omega) g3 g4 (by (try simp only [sm_I_int]); omega) (choose_val (b := (.fn 0 X78)) (by (try simp only [sm_I_int]); omega) (by (try simp only [sm_I_int]); omega) (by (try simp only [sm_I_int]); omega) g6) (by (try simp only [sm_I_int]); omega) g8 g9 (by simp only [ints_app, ints_cons, ints_nil, I_nth, List.nil_append]) (erase_none (j := X90) e1 e2)
noncomputable def f87 : E := (.imp X125 (.not (.cmp .lss X1 X106)))
theorem fact87 (ρ : Env) : E.B ρ f87 = true := by
  unfold f87
  rw [sm_B_imp]
  simp only [sm_B_and]
  rintro ⟨p0, p1, p2, p3, p4, p5, p6, p7, p8, p9, p10, p11⟩
  have hb0 := t132_not p0
  have hb1 := t133_of p1
  try simp only [smA, smW] at *
  have n5 := fn0_nn (ρ := ρ) X14
  have n8 := fn0_nn (ρ := ρ) X58
  obtain ⟨a8, ea8, qa8⟩ := cs_i64 ((E.I ρ X42) + (1))
  try simp only [ea8] at *
  omega
noncomputable def f88 : E := (.imp X105 X135)
theorem fact88 (ρ : Env) : E.B ρ f88 = true := by
  unfold f88
  rw [sm_B_imp]
  simp only [sm_B_and]
  rintro ⟨p0, p1, p2⟩
  have hb0 := t132_not p0
  have hb1 := t133_of p1
  try simp only [smA, smW] at *
  obtain ⟨a2, ea2, qa2⟩ := cs_i64 ((E.I ρ X42) + (1))
  try simp only [ea2] at *
  omega
noncomputable def f89 : E := (.imp (.and X11 (.and X12 (.and X43 (.and X16 X67)))) X124)
theorem fact89 (ρ : Env) : E.B ρ f89 = true := by
  unfold f89
  rw [sm_B_imp]
  simp only [sm_B_and]
  rintro ⟨p0, p1, p2, p3, p4, p5, p6, p7, p8, p9, p10, p11, p12⟩
  have hb0 := t132_not p0
  have hb1 := t133_of p1
  try simp only [smA, smW] at *
  have n5 := fn0_nn (ρ := ρ) X14
  have n8 := fn0_nn (ρ := ρ) X58
  obtain ⟨a8, ea8, qa8⟩ := cs_i64 ((E.I ρ X46) + (1))
  try simp only [ea8] at *
  obtain ⟨a9, ea9, qa9⟩ := cs_i64 ((E.I ρ X42) + (1))
  try simp only [ea9] at *
  omega
noncomputable def f90 : E := (.imp X119 X137)
theorem fact90 (ρ : Env) : E.B ρ f90 = true := by
  unfold f90
  rw [sm_B_imp]
  simp only [sm_B_and]
  rintro ⟨p0, p1, p2, p3, p4, p5, p6, p7, p8, p9⟩
  have hb0 := t132_not p0
  have hb1 := t133_of p1
  try simp only [smA, smW] at *
  have n5 := fn0_nn (ρ := ρ) X14
  obtain ⟨a6, ea6, qa6⟩ := cs_i64 ((E.I ρ X42) + (1))
  try simp only [ea6] at *
  omega
noncomputable def f91 : E := (.imp (.and X11 (.and X12 (.and X88 (.and X98 (.and X99 (.and X108 X127)))))) X138)
theorem fact91 (ρ : Env) : E.B ρ f91 = true := by
  unfold f91
  rw [sm_B_imp]
  simp only [sm_B_and]
  rintro ⟨p0, p1, p2, p3, p4, p5, p6, p7, p8, p9, p10, p11⟩
  have hb0 := t132_not p0
  have hb1 := t133_of p1
  have hn0 := t131_nth p2 X46
  try simp only [smA, smW] at *
  have n6 := fn0_nn (ρ := ρ) X78
  obtain ⟨a6, ea6, qa6⟩ := cs_u64 (E.I ρ X77)
  try simp only [ea6] at *
  obtain ⟨a7, ea7, qa7⟩ := cs_rem (E.I ρ (.fn 1 (.pr X14 X46))) a6
  try simp only [ea7] at *
  obtain ⟨a8, ea8, qa8⟩ := cs_i64 a7
  try simp only [ea8] at *
  obtain ⟨a9, ea9, qa9⟩ := cs_i64 (a8 + (1))
  try simp only [ea9] at *
  obtain ⟨a10, ea10, qa10⟩ := cs_i64 ((E.I ρ X42) + (1))
  try simp only [ea10] at *
  omega
noncomputable def f92 : E := (.imp (.and X11 (.and X12 (.and X88 (.and X98 (.and X100 (.and X50 (.and X126 X80))))))) X139)
theorem fact92 (ρ : Env) : E.B ρ f92 = true := by
  unfold f92
  rw [sm_B_imp]
  simp only [sm_B_and]
  rintro ⟨p0, p1, p2, p3, p4, p5, p6, p7, p8, p9⟩
  have hb0 := t132_not p0
  have hb1 := t133_of p1
  have hn0 := t131_nth p2 X46
  try simp only [smA, smW] at *
  have n6 := fn0_nn (ρ := ρ) X78
  obtain ⟨a6, ea6, qa6⟩ := cs_u64 (E.I ρ X77)
  try simp only [ea6] at *
  obtain ⟨a7, ea7, qa7⟩ := cs_rem (E.I ρ (.fn 1 (.pr X14 X46))) a6
  try simp only [ea7] at *
  obtain ⟨a8, ea8, qa8⟩ := cs_i64 a7
  try simp only [ea8] at *
  obtain ⟨a9, ea9, qa9⟩ := cs_i64 (a8 + (1))
  try simp only [ea9] at *
  obtain ⟨a10, ea10, qa10⟩ := cs_i64 ((E.I ρ X42) + (1))
  try simp only [ea10] at *
  omega
noncomputable def f93 : E := (.imp (.and X11 (.and X12 (.and X88 (.and X96 (.and X100 X127))))) X140)
theorem fact93 (ρ : Env) : E.B ρ f93 = true := by
  unfold f93
  rw [sm_B_imp]
  simp only [sm_B_and]
  rintro ⟨p0, p1, p2, p3, p4, p5, p6, p7, p8, p9, p10⟩
  have hb0 := t132_not p0
  have hb1 := t133_of p1
  have hn0 := t131_nth p2 X46
  try simp only [smA, smW] at *
  have n6 := fn0_nn (ρ := ρ) X78
  obtain ⟨a6, ea6, qa6⟩ := cs_u64 (E.I ρ X77)
  try simp only [ea6] at *
  obtain ⟨a7, ea7, qa7⟩ := cs_rem (E.I ρ (.fn 1 (.pr X14 X46))) a6
  try simp only [ea7] at *
  obtain ⟨a8, ea8, qa8⟩ := cs_i64 a7
  try simp only [ea8] at *
  obtain ⟨a9, ea9, qa9⟩ := cs_i64 (a8 + (1))
  try simp only [ea9] at *
  obtain ⟨a10, ea10, qa10⟩ := cs_i64 ((E.I ρ X42) + (1))
  try simp only [ea10] at *
  omega
noncomputable def f94 : E := (.imp (.and X11 (.and X12 (.and X88 (.and X43 (.and X98 (.and X99 (.and X107 X151))))))) X128)
theorem fact94 (ρ : Env) : E.B ρ f94 = true := by
  unfold f94
  rw [sm_B_imp]
  simp only [sm_B_and]
  rintro ⟨p0, p1, p2, p3, p4, p5, p6, p7, p8, p9, p10, p11, p12, p13, p14, p15, p16, p17, p18⟩
  have hb0 := t132_not p0
  have hb1 := t133_of p1
  have hn0 := t131_nth p2 X46
  try simp only [smA, smW] at *
  have n8 := fn0_nn (ρ := ρ) X14
  have n12 := fn0_nn (ρ := ρ) X58
  have n13 := fn0_nn (ρ := ρ) X78
  obtain ⟨a13, ea13, qa13⟩ := cs_u64 (E.I ρ X77)
  try simp only [ea13] at *
  obtain ⟨a14, ea14, qa14⟩ := cs_rem (E.I ρ (.fn 1 (.pr X14 X46))) a13
  try simp only [ea14] at *
  obtain ⟨a15, ea15, qa15⟩ := cs_i64 a14
  try simp only [ea15] at *
  obtain ⟨a16, ea16, qa16⟩ := cs_i64 (a15 + (1))
  try simp only [ea16] at *
  obtain ⟨a17, ea17, qa17⟩ := cs_i64 ((E.I ρ X42) + (1))
  try simp only [ea17] at *
  omega
noncomputable def f95 : E := (.imp (.and X11 (.and X12 (.and X88 (.and X43 (.and X96 (.and X99 X151)))))) X128)
theorem fact95 (ρ : Env) : E.B ρ f95 = true := by
  unfold f95
  rw [sm_B_imp]
  simp only [sm_B_and]
  rintro ⟨p0, p1, p2, p3, p4, p5, p6, p7, p8, p9, p10, p11, p12, p13, p14, p15, p16, p17⟩
  have hb0 := t132_not p0
  have hb1 := t133_of p1
  have hn0 := t131_nth p2 X46
  try simp only [smA, smW] at *
  have n8 := fn0_nn (ρ := ρ) X14
  have n12 := fn0_nn (ρ := ρ) X58
  have n13 := fn0_nn (ρ := ρ) X78
  obtain ⟨a13, ea13, qa13⟩ := cs_u64 (E.I ρ X77)
  try simp only [ea13] at *
  obtain ⟨a14, ea14, qa14⟩ := cs_rem (E.I ρ (.fn 1 (.pr X14 X46))) a13
  try simp only [ea14] at *
  obtain ⟨a15, ea15, qa15⟩ := cs_i64 a14
  try simp only [ea15] at *
  obtain ⟨a16, ea16, qa16⟩ := cs_i64 (a15 + (1))
  try simp only [ea16] at *
  obtain ⟨a17, ea17, qa17⟩ := cs_i64 ((E.I ρ X42) + (1))
  try simp only [ea17] at *
  omega
noncomputable def f96 : E := (.imp (.and X129 (.and X43 (.and X98 (.and X99 (.and X108 X130))))) (.fn 121 (.pr (.fn 23 (.pr (.fn 1 (.pr X78 X90)) (.fn 10 (.int 0)))) X152)))
theorem fact96 (ρ : Env) : E.B ρ f96 = true := by
  unfold f96
  rw [sm_B_imp]
  simp only [sm_B_and]
  rintro ⟨p0, p1, p2, p3, p4, p5, p6, p7, p8, p9, p10, p11, p12, p13, p14, p15, p16, p17, p18⟩
  obtain ⟨g0, g1, g2, g3, g4, g5, g6, k0, k1, k2, g7, g8, g9, e0, e1, e2⟩ : (0) ≤ E.I ρ X42 ∧ E.I ρ X42 < E.I ρ X1 ∧ (0) ≤ E.I ρ X6 ∧ E.I ρ X46 = E.I ρ (.fn 6 (.pr X6 X42)) ∧ E.I ρ X46 < E.I ρ (.fn 0 X14) ∧ (1) ≤ E.I ρ (.fn 0 X78) ∧ E.I ρ X77 = E.I ρ (.fn 0 X78) ∧ (0) ≤ E.I ρ (.fn 1 (.pr X14 X46)) ∧ (0) < E.I ρ (.fn 0 X78) ∧ E.I ρ (.fn 0 X78) < (9223372036854775808) ∧ (0) ≤ E.I ρ X90 ∧ E.I ρ X90 < E.I ρ (.fn 0 X78) ∧ E.I ρ X106 = E.I ρ (.fn 6 (.pr X42 (.int 1))) ∧ E.I ρ X90 = (0) ∧ E.I ρ X95 = E.I ρ (.fn 6 (.pr X90 (.int 1))) ∧ E.I ρ (.fn 6 (.pr X95 (.fn 7 (.pr X77 X95)))) = E.I ρ (.fn 0 X78) := by
    have hb6 := t132_not p6
    have hb7 := t133_of p7
    have hn0 := t131_nth p11 X46
    try simp only [smA, smW] at *
    have n8 := fn0_nn (ρ := ρ) X14
    have n11 := fn0_nn (ρ := ρ) X78
    obtain ⟨a11, ea11, qa11⟩ := cs_u64 (E.I ρ X77)
    try simp only [ea11] at *
    obtain ⟨a12, ea12, qa12⟩ := cs_rem (E.I ρ (.fn 1 (.pr X14 X46))) a11
    try simp only [ea12] at *
    obtain ⟨a13, ea13, qa13⟩ := cs_i64 a12
    try simp only [ea13] at *
    obtain ⟨a14, ea14, qa14⟩ := cs_i64 (a13 + (1))
    try simp only [ea14] at *
    obtain ⟨a15, ea15, qa15⟩ := cs_i64 ((E.I ρ X42) + (1))
    try simp only [ea15] at *
    omega
  exact t121_step (p := X46) (j := X90) p0 (by (try simp only [sm_I_int]); omega) g1 (by (try simp only [sm_I_int]); omega) g3 g4 (by (try simp only [sm_I_int]); omega) (choose_val (b := (.fn 0 X78)) (by (try simp only [sm_I_int]); omega) (by (try simp only [sm_I_int]); omega) (by (try simp only [sm_I_int]); omega) g6) (by (try simp only [sm_I_int]); omega) g8 g9 (by simp only [ints_app, ints_cons, ints_nil, I_nth, List.nil_append]) (erase_tail (j := X90) e0 e1 e2)
noncomputable def f97 : E := (.imp (.and X129 (.and X43 (.and X98 (.and X100 X130)))) (.fn 121 (.pr (.fn 23 (.pr (.fn 1 (.pr X78 X90)) (.fn 10 (.int 0)))) X153)))
theorem fact97 (ρ : Env) : E.B ρ f97 = true := by
  unfold f97
  rw [sm_B_imp]
  simp only [sm_B_and]
  rintro ⟨p0, p1, p2, p3, p4, p5, p6, p7, p8, p9, p10, p11, p12, p13, p14, p15, p16, p17⟩
  obtain ⟨g0, g1, g2, g3, g4, g5, g6, k0, k1, k2, g7, g8, g9, e1, e2⟩ : (0) ≤ E.I ρ X42 ∧ E.I ρ X42 < E.I ρ X1 ∧ (0) ≤ E.I ρ X6 ∧ E.I ρ X46 = E.I ρ (.fn 6 (.pr X6 X42)) ∧ E.I ρ X46 < E.I ρ (.fn 0 X14) ∧ (1) ≤ E.I ρ (.fn 0 X78) ∧ E.I ρ X77 = E.I ρ (.fn 0 X78) ∧ (0) ≤ E.I ρ (.fn 1 (.pr X14 X46)) ∧ (0) < E.I ρ (.fn 0 X78) ∧ E.I ρ (.fn 0 X78) < (9223372036854775808) ∧ (0) ≤ E.I ρ X90 ∧ E.I ρ X90 < E.I ρ (.fn 0 X78) ∧ E.I ρ X106 = E.I ρ (.fn 6 (.pr X42 (.int 1))) ∧ E.I ρ X95 = E.I ρ (.fn 6 (.pr X90 (.int 1))) ∧ E.I ρ (.fn 6 (.pr X95 (.fn 7 (.pr X77 X95)))) = E.I ρ (.fn 0 X78) := by
    have hb5 := t132_not p5
    have hb6 := t133_of p6
    have hn0 := t131_nth p10 X46
    try simp only [smA, smW] at *
    have n8 := fn0_nn (ρ := ρ) X14
    have n11 := fn0_nn (ρ := ρ) X78
    obtain ⟨a11, ea11, qa11⟩ := cs_u64 (E.I ρ X77)
    try simp only [ea11] at *
    obtain ⟨a12, ea12, qa12⟩ := cs_rem (E.I ρ (.fn 1 (.pr X14 X46))) a11
    try simp only [ea12] at *
    obtain ⟨a13, ea13, qa13⟩ := cs_i64 a12
    try simp only [ea13] at *
    obtain ⟨a14, ea14, qa14⟩ := cs_i64 (a13 + (1))
    try simp only [ea14] at *
    obtain ⟨a15, ea15, qa15⟩ := cs_i64 ((E.I ρ X42) + (1))
    try simp only [ea15] at *
    omega
  exact t121_step (p := X46) (j := X90) p0 (by (try simp only [sm_I_int]); omega) g1 (by (try simp only [sm_I_int]); omega) g3 g4 (by (try simp only [sm_I_int]); omega) (choose_val (b := (.fn 0 X78)) (by (try simp only [sm_I_int]); omega) (by (try simp only [sm_I_int]); omega) (by (try simp only [sm_I_int]); omega) g6) (by (try simp only [sm_I_int]); omega) g8 g9 (by simp only [ints_app, ints_cons, ints_nil, I_nth, List.nil_append]) (erase_both (j := X90) (by (try simp only [sm_I_int]); omega) (by exact Int.le_refl 0) rfl e1 e2)
noncomputable def f98 : E := (.imp (.and X129 (.and X43 (.and X96 (.and X100 X130)))) (.fn 121 (.pr (.fn 23 (.pr (.fn 1 (.pr X78 X90)) (.fn 10 (.int 0)))) X154)))
theorem fact98 (ρ : Env) : E.B ρ f98 = true := by
  unfold f98
  rw [sm_B_imp]
  simp only [sm_B_and]
  rintro ⟨p0, p1, p2, p3, p4, p5, p6, p7, p8, p9, p10, p11, p12, p13, p14, p15, p16, p17⟩
  obtain ⟨g0, g1, g2, g3, g4, g5, g6, k0, k1, k2, g7, g8, g9, e1⟩ : (0) ≤ E.I ρ X42 ∧ E.I ρ X42 < E.I ρ X1 ∧ (0) ≤ E.I ρ X6 ∧ E.I ρ X46 = E.I ρ (.fn 6 (.pr X6 X42)) ∧ E.I ρ X46 < E.I ρ (.fn 0 X14) ∧ (1) ≤ E.I ρ (.fn 0 X78) ∧ E.I ρ X77 = E.I ρ (.fn 0 X78) ∧ (0) ≤ E.I ρ (.fn 1 (.pr X14 X46)) ∧ (0) < E.I ρ (.fn 0 X78) ∧ E.I ρ (.fn 0 X78) < (9223372036854775808) ∧ (0) ≤ E.I ρ X90 ∧ E.I ρ X90 < E.I ρ (.fn 0 X78) ∧ E.I ρ X106 = E.I ρ (.fn 6 (.pr X42 (.int 1))) ∧ E.I ρ (.fn 0 X78) = E.I ρ (.fn 6 (.pr X90 (.int 1))) := by
    have hb5 := t132_not p5
    have hb6 := t133_of p6
    have hn0 := t131_nth p10 X46
    try simp only [smA, smW] at *
    have n8 := fn0_nn (ρ := ρ) X14
    have n11 := fn0_nn (ρ := ρ) X78
    obtain ⟨a11, ea11, qa11⟩ := cs_u64 (E.I ρ X77)
    try simp only [ea11] at *
    obtain ⟨a12, ea12, qa12⟩ := cs_rem (E.I ρ (.fn 1 (.pr X14 X46))) a11
    try simp only [ea12] at *
    obtain ⟨a13, ea13, qa13⟩ := cs_i64 a12
    try simp only [ea13] at *
    obtain ⟨a14, ea14, qa14⟩ := cs_i64 (a13 + (1))
    try simp only [ea14] at *
    obtain ⟨a15, ea15, qa15⟩ := cs_i64 ((E.I ρ X42) + (1))
    try simp only [ea15] at *
    omega
  exact t121_step (p := X46) (j := X90) p0 (by (try simp only [sm_I_int]); omega) g1 (by (try simp only [sm_I_int]); omega) g3 g4 (by (try simp only [sm_I_int]); omega) (choose_val (b := (.fn 0 X78)) (by (try simp only [sm_I_int]); omega) (by (try simp only [sm_I_int]); omega) (by (try simp only [sm_I_int]); omega) g6) (by (try simp only [sm_I_int]); omega) g8 g9 (by simp only [ints_app, ints_cons, ints_nil, I_nth, List.nil_append]) (erase_head (j := X90) (by (try simp only [sm_I_int]); omega) (by exact Int.le_refl 0) rfl e1)
noncomputable def f99 : E := (.imp (.and X43 (.and X98 (.and X99 (.and X107 X167)))) X169)
theorem fact99 (ρ : Env) : E.B ρ f99 = true := by
  unfold f99
  rw [sm_B_imp]
  simp only [sm_B_and]
  rintro ⟨p0, p1, p2, p3, p4, p5, p6, p7, p8, p9, p10, p11, p12, p13, p14, p15, p16, p17, p18, p19, p20⟩
  obtain ⟨g0, g1, g2, g3, g4, g5, g6, k0, k1, k2, g7, g8, g9, e1, e2⟩ : (0) ≤ E.I ρ X42 ∧ E.I ρ X42 < E.I ρ X1 ∧ (0) ≤ E.I ρ X6 ∧ E.I ρ X46 = E.I ρ (.fn 6 (.pr X6 X42)) ∧ E.I ρ X46 < E.I ρ (.fn 0 X14) ∧ (1) ≤ E.I ρ (.fn 0 X78) ∧ E.I ρ X77 = E.I ρ (.fn 0 X78) ∧ (0) ≤ E.I ρ (.fn 1 (.pr X14 X46)) ∧ (0) < E.I ρ (.fn 0 X78) ∧ E.I ρ (.fn 0 X78) < (9223372036854775808) ∧ (0) ≤ E.I ρ X90 ∧ E.I ρ X90 < E.I ρ (.fn 0 X78) ∧ E.I ρ X106 = E.I ρ (.fn 6 (.pr X42 (.int 1))) ∧ E.I ρ X90 = (0) ∧ E.I ρ (.fn 0 X78) = (1) := by
    have hb5 := t132_not p5
    have hb6 := t133_of p6
    have hn0 := t131_nth p11 X46
    try simp only [smA, smW] at *
    have n8 := fn0_nn (ρ := ρ) X14
    have n11 := fn0_nn (ρ := ρ) X58
    have n12 := fn0_nn (ρ := ρ) X78
    obtain ⟨a12, ea12, qa12⟩ := cs_u64 (E.I ρ X77)
    try simp only [ea12] at *
    obtain ⟨a13, ea13, qa13⟩ := cs_rem (E.I ρ (.fn 1 (.pr X14 X46))) a12
    try simp only [ea13] at *
    obtain ⟨a14, ea14, qa14⟩ := cs_i64 a13
    try simp only [ea14] at *
    obtain ⟨a15, ea15, qa15⟩ := cs_i64 (a14 + (1))
    try simp only [ea15] at *
    obtain ⟨a16, ea16, qa16⟩ := cs_i64 ((E.I ρ X42) + (1))
    try simp only [ea16] at *
    omega
  exact t121_step (p := X46) (j := X90) p13 (by (try simp only [sm_I_int]); omega) g1 (by (try simp only [sm_I_int]); omega) g3 g4 (by (try simp only [sm_I_int]); omega) (choose_val (b := (.fn 0 X78)) (by (try simp only [sm_I_int]); omega) (by (try simp only [sm_I_int]); omega) (by (try simp only [sm_I_int]); omega) g6) (by (try simp only [sm_I_int]); omega) g8 g9 (by simp only [ints_app, ints_cons, ints_nil, I_nth, List.nil_append]) (erase_none (j := X90) e1 e2)
noncomputable def f100 : E := (.imp (.and X43 (.and X96 (.and X99 X167))) X169)
theorem fact100 (ρ : Env) : E.B ρ f100 = true := by
  unfold f100
  rw [sm_B_imp]
  simp only [sm_B_and]
  rintro ⟨p0, p1, p2, p3, p4, p5, p6, p7, p8, p9, p10, p11, p12, p13, p14, p15, p16, p17, p18, p19⟩
  obtain ⟨g0, g1, g2, g3, g4, g5, g6, k0, k1, k2, g7, g8, g9, e1, e2⟩ : (0) ≤ E.I ρ X42 ∧ E.I ρ X42 < E.I ρ X1 ∧ (0) ≤ E.I ρ X6 ∧ E.I ρ X46 = E.I ρ (.fn 6 (.pr X6 X42)) ∧ E.I ρ X46 < E.I ρ (.fn 0 X14) ∧ (1) ≤ E.I ρ (.fn 0 X78) ∧ E.I ρ X77 = E.I ρ (.fn 0 X78) ∧ (0) ≤ E.I ρ (.fn 1 (.pr X14 X46)) ∧ (0) < E.I ρ (.fn 0 X78) ∧ E.I ρ (.fn 0 X78) < (9223372036854775808) ∧ (0) ≤ E.I ρ X90 ∧ E.I ρ X90 < E.I ρ (.fn 0 X78) ∧ E.I ρ X106 = E.I ρ (.fn 6 (.pr X42 (.int 1))) ∧ E.I ρ X90 = (0) ∧ E.I ρ (.fn 0 X78) = (1) := by
    have hb4 := t132_not p4
    have hb5 := t133_of p5
    have hn0 := t131_nth p10 X46
    try simp only [smA, smW] at *
    have n8 := fn0_nn (ρ := ρ) X14
    have n11 := fn0_nn (ρ := ρ) X58
    have n12 := fn0_nn (ρ := ρ) X78
    obtain ⟨a12, ea12, qa12⟩ := cs_u64 (E.I ρ X77)
    try simp only [ea12] at *
    obtain ⟨a13, ea13, qa13⟩ := cs_rem (E.I ρ (.fn 1 (.pr X14 X46))) a12
    try simp only [ea13] at *
    obtain ⟨a14, ea14, qa14⟩ := cs_i64 a13
    try simp only [ea14] at *
    obtain ⟨a15, ea15, qa15⟩ := cs_i64 (a14 + (1))
    try simp only [ea15] at *
    obtain ⟨a16, ea16, qa16⟩ := cs_i64 ((E.I ρ X42) + (1))
    try simp only [ea16] at *
    omega
  exact t121_step (p := X46) (j := X90) p12 (by (try simp only [sm_I_int]); omega) g1 (by (try simp only [sm_I_int]); omega) g3 g4 (by (try simp only [sm_I_int]); omega) (choose_val (b := (.fn 0 X78)) (by (try simp only [sm_I_int]); omega) (by (try simp only [sm_I_int]); omega) (by (try simp only [sm_I_int]); omega) g6) (by (try simp only [sm_I_int]); omega) g8 g9 (by simp only [ints_app, ints_cons, ints_nil, I_nth, List.nil_append]) (erase_none (j := X90) e1 e2)
noncomputable def f101 : E := (.imp X101 (.cmp .eql X90 (.fn 0 (.fn 4 (.pr X78 (.pr (.int 0) X90))))))
theorem fact101 (ρ : Env) : E.B ρ f101 = true := by
  unfold f101
  rw [sm_B_imp]
  simp only [sm_B_and]
  rintro ⟨p0, p1, p2, p3, p4, p5, p6, p7, p8⟩
  have hb0 := t132_not p0
  have hb1 := t133_of p1
  have hn0 := t131_nth p2 X46
  have hs1 := I_sublen (ρ := ρ) (l := X78) (a := (.int 0)) (b := X90)
  try simp only [smA, smW] at *
  have n4 := fn0_nn (ρ := ρ) X78
  have n5 := fn0_nn (ρ := ρ) (.fn 4 (.pr X78 (.pr (.int 0) X90)))
  obtain ⟨a5, ea5, qa5⟩ := cs_u64 (E.I ρ X77)
  try simp only [ea5] at *
  obtain ⟨a6, ea6, qa6⟩ := cs_rem (E.I ρ (.fn 1 (.pr X14 X46))) a5
  try simp only [ea6] at *
  obtain ⟨a7, ea7, qa7⟩ := cs_i64 a6
  try simp only [ea7] at *
  obtain ⟨a8, ea8, qa8⟩ := cs_i64 (a7 + (1))
  try simp only [ea8] at *
  omega
noncomputable def f102 : E := (.imp X125 X135)
theorem fact102 (ρ : Env) : E.B ρ f102 = true := by
  unfold f102
  rw [sm_B_imp]
  simp only [sm_B_and]
  rintro ⟨p0, p1, p2, p3, p4, p5, p6, p7, p8, p9, p10, p11⟩
  have hb0 := t132_not p0
  have hb1 := t133_of p1
  try simp only [smA, smW] at *
  have n5 := fn0_nn (ρ := ρ) X14
  have n8 := fn0_nn (ρ := ρ) X58
  obtain ⟨a8, ea8, qa8⟩ := cs_i64 ((E.I ρ X42) + (1))
  try simp only [ea8] at *
  omega
noncomputable def f103 : E := (.imp X101 (.not (.cmp .lss X90 (.int 1))))
theorem fact103 (ρ : Env) : E.B ρ f103 = true := by
  unfold f103
  rw [sm_B_imp]
  simp only [sm_B_and]
  rintro ⟨p0, p1, p2, p3, p4, p5, p6, p7, p8⟩
  have hb0 := t132_not p0
  have hb1 := t133_of p1
  have hn0 := t131_nth p2 X46
  try simp only [smA, smW] at *
  have n4 := fn0_nn (ρ := ρ) X78
  obtain ⟨a4, ea4, qa4⟩ := cs_u64 (E.I ρ X77)
  try simp only [ea4] at *
  obtain ⟨a5, ea5, qa5⟩ := cs_rem (E.I ρ (.fn 1 (.pr X14 X46))) a4
  try simp only [ea5] at *
  obtain ⟨a6, ea6, qa6⟩ := cs_i64 a5
  try simp only [ea6] at *
  obtain ⟨a7, ea7, qa7⟩ := cs_i64 (a6 + (1))
  try simp only [ea7] at *
  omega
noncomputable def f104 : E := (.imp X125 X137)
theorem fact104 (ρ : Env) : E.B ρ f104 = true := by
  unfold f104
  rw [sm_B_imp]
  simp only [sm_B_and]
  rintro ⟨p0, p1, p2, p3, p4, p5, p6, p7, p8, p9, p10, p11⟩
  have hb0 := t132_not p0
  have hb1 := t133_of p1
  try simp only [smA, smW] at *
  have n5 := fn0_nn (ρ := ρ) X14
  have n8 := fn0_nn (ρ := ρ) X58
  obtain ⟨a8, ea8, qa8⟩ := cs_i64 ((E.I ρ X42) + (1))
  try simp only [ea8] at *
  omega
noncomputable def f105 : E := (.imp (.and X11 (.and X12 (.and X88 (.and X43 (.and X98 (.and X99 (.and X108 X151))))))) X138)
theorem fact105 (ρ : Env) : E.B ρ f105 = true := by
  unfold f105
  rw [sm_B_imp]
  simp only [sm_B_and]
  rintro ⟨p0, p1, p2, p3, p4, p5, p6, p7, p8, p9, p10, p11, p12, p13, p14, p15, p16, p17, p18⟩
  have hb0 := t132_not p0
  have hb1 := t133_of p1
  have hn0 := t131_nth p2 X46
  try simp only [smA, smW] at *
  have n8 := fn0_nn (ρ := ρ) X14
  have n12 := fn0_nn (ρ := ρ) X58
  have n13 := fn0_nn (ρ := ρ) X78
  obtain ⟨a13, ea13, qa13⟩ := cs_u64 (E.I ρ X77)
  try simp only [ea13] at *
  obtain ⟨a14, ea14, qa14⟩ := cs_rem (E.I ρ (.fn 1 (.pr X14 X46))) a13
  try simp only [ea14] at *
  obtain ⟨a15, ea15, qa15⟩ := cs_i64 a14
  try simp only [ea15] at *
  obtain ⟨a16, ea16, qa16⟩ := cs_i64 (a15 + (1))
  try simp only [ea16] at *
  obtain ⟨a17, ea17, qa17⟩ := cs_i64 ((E.I ρ X42) + (1))
  try simp only [ea17] at *
  omega
noncomputable def f106 : E := (.imp (.and X11 (.and X12 (.and X88 (.and X43 (.and X98 (.and X100 (.and X16 (.and X8 (.and X5 (.and X13 (.and X15 (.and X49 (.and X126 (.and X56 (.and X57 (.and X59 X80)))))))))))))))) X139)
theorem fact106 (ρ : Env) : E.B ρ f106 = true := by
  unfold f106
  rw [sm_B_imp]
  simp only [sm_B_and]
  rintro ⟨p0, p1, p2, p3, p4, p5, p6, p7, p8, p9, p10, p11, p12, p13, p14, p15, p16, p17, p18⟩
  have hb0 := t132_not p0
  have hb1 := t133_of p1
  have hn0 := t131_nth p2 X46
  try simp only [smA, smW] at *
  have n8 := fn0_nn (ρ := ρ) X14
  have n12 := fn0_nn (ρ := ρ) X58
  have n13 := fn0_nn (ρ := ρ) X78
  obtain ⟨a13, ea13, qa13⟩ := cs_u64 (E.I ρ X77)
  try simp only [ea13] at *
  obtain ⟨a14, ea14, qa14⟩ := cs_rem (E.I ρ (.fn 1 (.pr X14 X46))) a13
  try simp only [ea14] at *
  obtain ⟨a15, ea15, qa15⟩ := cs_i64 a14
  try simp only [ea15] at *
  obtain ⟨a16, ea16, qa16⟩ := cs_i64 (a15 + (1))
  try simp only [ea16] at *
  obtain ⟨a17, ea17, qa17⟩ := cs_i64 ((E.I ρ X42) + (1))
  try simp only [ea17] at *
  omega
noncomputable def f107 : E := (.imp X101 (.not (.cmp .lss (.int 300) X90)))
theorem fact107 (ρ : Env) : E.B ρ f107 = true := by
  unfold f107
  rw [sm_B_imp]
  simp only [sm_B_and]
  rintro ⟨p0, p1, p2, p3, p4, p5, p6, p7, p8⟩
  have hb0 := t132_not p0
  have hb1 := t133_of p1
  have hn0 := t131_nth p2 X46
  try simp only [smA, smW] at *
  have n4 := fn0_nn (ρ := ρ) X78
  obtain ⟨a4, ea4, qa4⟩ := cs_u64 (E.I ρ X77)
  try simp only [ea4] at *
  obtain ⟨a5, ea5, qa5⟩ := cs_rem (E.I ρ (.fn 1 (.pr X14 X46))) a4
  try simp only [ea5] at *
  obtain ⟨a6, ea6, qa6⟩ := cs_i64 a5
  try simp only [ea6] at *
  obtain ⟨a7, ea7, qa7⟩ := cs_i64 (a6 + (1))
  try simp only [ea7] at *
  omega
noncomputable def f108 : E := (.imp (.and X43 (.and X98 (.and X99 (.and X108 X167)))) (.fn 121 (.pr (.fn 3 (.pr X58 (.fn 23 (.pr (.fn 1 (.pr X78 X90)) (.fn 10 (.int 0)))))) X152)))
theorem fact108 (ρ : Env) : E.B ρ f108 = true := by
  unfold f108
  rw [sm_B_imp]
  simp only [sm_B_and]
  rintro ⟨p0, p1, p2, p3, p4, p5, p6, p7, p8, p9, p10, p11, p12, p13, p14, p15, p16, p17, p18, p19, p20⟩
  obtain ⟨g0, g1, g2, g3, g4, g5, g6, k0, k1, k2, g7, g8, g9, e0, e1, e2⟩ : (0) ≤ E.I ρ X42 ∧ E.I ρ X42 < E.I ρ X1 ∧ (0) ≤ E.I ρ X6 ∧ E.I ρ X46 = E.I ρ (.fn 6 (.pr X6 X42)) ∧ E.I ρ X46 < E.I ρ (.fn 0 X14) ∧ (1) ≤ E.I ρ (.fn 0 X78) ∧ E.I ρ X77 = E.I ρ (.fn 0 X78) ∧ (0) ≤ E.I ρ (.fn 1 (.pr X14 X46)) ∧ (0) < E.I ρ (.fn 0 X78) ∧ E.I ρ (.fn 0 X78) < (9223372036854775808) ∧ (0) ≤ E.I ρ X90 ∧ E.I ρ X90 < E.I ρ (.fn 0 X78) ∧ E.I ρ X106 = E.I ρ (.fn 6 (.pr X42 (.int 1))) ∧ E.I ρ X90 = (0) ∧ E.I ρ X95 = E.I ρ (.fn 6 (.pr X90 (.int 1))) ∧ E.I ρ (.fn 6 (.pr X95 (.fn 7 (.pr X77 X95)))) = E.I ρ (.fn 0 X78) := by
    have hb5 := t132_not p5
    have hb6 := t133_of p6
    have hn0 := t131_nth p11 X46
    try simp only [smA, smW] at *
    have n8 := fn0_nn (ρ := ρ) X14
    have n11 := fn0_nn (ρ := ρ) X58
    have n12 := fn0_nn (ρ := ρ) X78
    obtain ⟨a12, ea12, qa12⟩ := cs_u64 (E.I ρ X77)
    try simp only [ea12] at *
    obtain ⟨a13, ea13, qa13⟩ := cs_rem (E.I ρ (.fn 1 (.pr X14 X46))) a12
    try simp only [ea13] at *
    obtain ⟨a14, ea14, qa14⟩ := cs_i64 a13
    try simp only [ea14] at *
    obtain ⟨a15, ea15, qa15⟩ := cs_i64 (a14 + (1))
    try simp only [ea15] at *
    obtain ⟨a16, ea16, qa16⟩ := cs_i64 ((E.I ρ X42) + (1))
    try simp only [ea16] at *
    omega
  exact t121_step (p := X46) (j := X90) p13 (by (try simp only [sm_I_int]); omega) g1 (by (try simp only [sm_I_int]); omega) g3 g4 (by (try simp only [sm_I_int]); omega) (choose_val (b := (.fn 0 X78)) (by (try simp only [sm_I_int]); omega) (by (try simp only [sm_I_int]); omega) (by (try simp only [sm_I_int]); omega) g6) (by (try simp only [sm_I_int]); omega) g8 g9 (by simp only [ints_app, ints_cons, ints_nil, I_nth, List.nil_append]) (erase_tail (j := X90) e0 e1 e2)
noncomputable def f109 : E := (.imp (.and X43 (.and X98 X181)) (.fn 121 (.pr (.fn 3 (.pr X58 (.fn 23 (.pr (.fn 1 (.pr X78 X90)) (.fn 10 (.int 0)))))) X153)))
theorem fact109 (ρ : Env) : E.B ρ f109 = true := by
  unfold f109
  rw [sm_B_imp]
  simp only [sm_B_and]
  rintro ⟨p0, p1, p2, p3, p4, p5, p6, p7, p8, p9, p10, p11, p12, p13, p14, p15, p16, p17, p18, p19, p20⟩
  obtain ⟨g0, g1, g2, g3, g4, g5, g6, k0, k1, k2, g7, g8, g9, e1, e2⟩ : (0) ≤ E.I ρ X42 ∧ E.I ρ X42 < E.I ρ X1 ∧ (0) ≤ E.I ρ X6 ∧ E.I ρ X46 = E.I ρ (.fn 6 (.pr X6 X42)) ∧ E.I ρ X46 < E.I ρ (.fn 0 X14) ∧ (1) ≤ E.I ρ (.fn 0 X78) ∧ E.I ρ X77 = E.I ρ (.fn 0 X78) ∧ (0) ≤ E.I ρ (.fn 1 (.pr X14 X46)) ∧ (0) < E.I ρ (.fn 0 X78) ∧ E.I ρ (.fn 0 X78) < (9223372036854775808) ∧ (0) ≤ E.I ρ X90 ∧ E.I ρ X90 < E.I ρ (.fn 0 X78) ∧ E.I ρ X106 = E.I ρ (.fn 6 (.pr X42 (.int 1))) ∧ E.I ρ X95 = E.I ρ (.fn 6 (.pr X90 (.int 1))) ∧ E.I ρ (.fn 6 (.pr X95 (.fn 7 (.pr X77 X95)))) = E.I ρ (.fn 0 X78) := by
    have hb4 := t132_not p4
    have hb5 := t133_of p5
    have hn0 := t131_nth p10 X46
    try simp only [smA, smW] at *
    have n8 := fn0_nn (ρ := ρ) X14
    have n12 := fn0_nn (ρ := ρ) X58
    have n13 := fn0_nn (ρ := ρ) X78
    obtain ⟨a13, ea13, qa13⟩ := cs_u64 (E.I ρ X77)
    try simp only [ea13] at *
    obtain ⟨a14, ea14, qa14⟩ := cs_rem (E.I ρ (.fn 1 (.pr X14 X46))) a13
    try simp only [ea14] at *
    obtain ⟨a15, ea15, qa15⟩ := cs_i64 a14
    try simp only [ea15] at *
    obtain ⟨a16, ea16, qa16⟩ := cs_i64 (a15 + (1))
    try simp only [ea16] at *
    obtain ⟨a17, ea17, qa17⟩ := cs_i64 ((E.I ρ X42) + (1))
    try simp only [ea17] at *
    omega
  exact t121_step (p := X46) (j := X90) p12 (by (try simp only [sm_I_int]); omega) g1 (by (try simp only [sm_I_int]); omega) g3 g4 (by (try simp only [sm_I_int]); omega) (choose_val (b := (.fn 0 X78)) (by (try simp only [sm_I_int]); omega) (by (try simp only [sm_I_int]); omega) (by (try simp only [sm_I_int]); omega) g6) (by (try simp only [sm_I_int]); omega) g8 g9 (by simp only [ints_app, ints_cons, ints_nil, I_nth, List.nil_append]) (erase_both (j := X90) (by (try simp only [sm_I_int]); omega) (by exact Int.le_refl 0) rfl e1 e2)
noncomputable def f110 : E := (.imp (.and X11 (.and X12 (.and X88 (.and X43 (.and X96 (.and X100 (.and X16 (.and X8 (.and X5 (.and X13 (.and X15 (.and X49 X170)))))))))))) X140)
theorem fact110 (ρ : Env) : E.B ρ f110 = true := by
  unfold f110
  rw [sm_B_imp]
  simp only [sm_B_and]
  rintro ⟨p0, p1, p2, p3, p4, p5, p6, p7, p8, p9, p10, p11, p12, p13, p14, p15, p16, p17, p18, p19⟩
  have hb0 := t132_not p0
  have hb1 := t133_of p1
  have hn0 := t131_nth p2 X46
  try simp only [smA, smW] at *
  have n8 := fn0_nn (ρ := ρ) X14
  have n12 := fn0_nn (ρ := ρ) X58
  have n13 := fn0_nn (ρ := ρ) X78
  obtain ⟨a13, ea13, qa13⟩ := cs_u64 (E.I ρ X77)
  try simp only [ea13] at *
  obtain ⟨a14, ea14, qa14⟩ := cs_rem (E.I ρ (.fn 1 (.pr X14 X46))) a13
  try simp only [ea14] at *
  obtain ⟨a15, ea15, qa15⟩ := cs_i64 a14
  try simp only [ea15] at *
  obtain ⟨a16, ea16, qa16⟩ := cs_i64 (a15 + (1))
  try simp only [ea16] at *
  obtain ⟨a17, ea17, qa17⟩ := cs_i64 ((E.I ρ X42) + (1))
  try simp only [ea17] at *
  omega
noncomputable def f111 : E := (.imp (.and X43 (.and X96 X181)) (.fn 121 (.pr (.fn 3 (.pr X58 (.fn 23 (.pr (.fn 1 (.pr X78 X90)) (.fn 10 (.int 0)))))) X154)))
theorem fact111 (ρ : Env) : E.B ρ f111 = true := by
  unfold f111
  rw [sm_B_imp]
  simp only [sm_B_and]
  rintro ⟨p0, p1, p2, p3, p4, p5, p6, p7, p8, p9, p10, p11, p12, p13, p14, p15, p16, p17, p18, p19, p20⟩
  obtain ⟨g0, g1, g2, g3, g4, g5, g6, k0, k1, k2, g7, g8, g9, e1⟩ : (0) ≤ E.I ρ X42 ∧ E.I ρ X42 < E.I ρ X1 ∧ (0) ≤ E.I ρ X6 ∧ E.I ρ X46 = E.I ρ (.fn 6 (.pr X6 X42)) ∧ E.I ρ X46 < E.I ρ (.fn 0 X14) ∧ (1) ≤ E.I ρ (.fn 0 X78) ∧ E.I ρ X77 = E.I ρ (.fn 0 X78) ∧ (0) ≤ E.I ρ (.fn 1 (.pr X14 X46)) ∧ (0) < E.I ρ (.fn 0 X78) ∧ E.I ρ (.fn 0 X78) < (9223372036854775808) ∧ (0) ≤ E.I ρ X90 ∧ E.I ρ X90 < E.I ρ (.fn 0 X78) ∧ E.I ρ X106 = E.I ρ (.fn 6 (.pr X42 (.int 1))) ∧ E.I ρ (.fn 0 X78) = E.I ρ (.fn 6 (.pr X90 (.int 1))) := by
    have hb4 := t132_not p4
    have hb5 := t133_of p5
    have hn0 := t131_nth p10 X46
    try simp only [smA, smW] at *
    have n8 := fn0_nn (ρ := ρ) X14
    have n12 := fn0_nn (ρ := ρ) X58
    have n13 := fn0_nn (ρ := ρ) X78
    obtain ⟨a13, ea13, qa13⟩ := cs_u64 (E.I ρ X77)
    try simp only [ea13] at *
    obtain ⟨a14, ea14, qa14⟩ := cs_rem (E.I ρ (.fn 1 (.pr X14 X46))) a13
    try simp only [ea14] at *
    obtain ⟨a15, ea15, qa15⟩ := cs_i64 a14
    try simp only [ea15] at *
    obtain ⟨a16, ea16, qa16⟩ := cs_i64 (a15 + (1))
    try simp only [ea16] at *
    obtain ⟨a17, ea17, qa17⟩ := cs_i64 ((E.I ρ X42) + (1))
    try simp only [ea17] at *
    omega
  exact t121_step (p := X46) (j := X90) p12 (by (try simp only [sm_I_int]); omega) g1 (by (try simp only [sm_I_int]); omega) g3 g4 (by (try simp only [sm_I_int]); omega) (choose_val (b := (.fn 0 X78)) (by (try simp only [sm_I_int]); omega) (by (try simp only [sm_I_int]); omega) (by (try simp only [sm_I_int]); omega) g6) (by (try simp only [sm_I_int]); omega) g8 g9 (by simp only [ints_app, ints_cons, ints_nil, I_nth, List.nil_append]) (erase_head (j := X90) (by (try simp only [sm_I_int]); omega) (by exact Int.le_refl 0) rfl e1)
noncomputable def facts : List E := [f0, f1, f2, f3, f4, f5, f6, f7, f8, f9, f10, f11, f12, f13, f14, f15, f16, f17, f18, f19, f20, f21, f22, f23, f24, f25, f26, f27, f28, f29, f30, f31, f32, f33, f34, f35, f36, f37, f38, f39, f40, f41, f42, f43, f44, f45, f46, f47, f48, f49, f50, f51, f52, f53, f54, f55, f56, f57, f58, f59, f60, f61, f62, f63, f64, f65, f66, f67, f68, f69, f70, f71, f72, f73, f74, f75, f76, f77, f78, f79, f80, f81, f82, f83, f84, f85, f86, f87, f88, f89, f90, f91, f92, f93, f94, f95, f96, f97, f98, f99, f100, f101, f102, f103, f104, f105, f106, f107, f108, f109, f110, f111]
theorem facts_ok : ∀ e ∈ facts, ∀ ρ : Env, E.B ρ e = true := (all_cons fact0 (all_cons fact1 (all_cons fact2 (all_cons fact3 (all_cons fact4 (all_cons fact5 (all_cons fact6 (all_cons fact7 (all_cons fact8 (all_cons fact9 (all_cons fact10 (all_cons fact11 (all_cons fact12 (all_cons fact13 (all_cons fact14 (all_cons fact15 (all_cons fact16 (all_cons fact17 (all_cons fact18 (all_cons fact19 (all_cons fact20 (all_cons fact21 (all_cons fact22 (all_cons fact23 (all_cons fact24 (all_cons fact25 (all_cons fact26 (all_cons fact27 (all_cons fact28 (all_cons fact29 (all_cons fact30 (all_cons fact31 (all_cons fact32 (all_cons fact33 (all_cons fact34 (all_cons fact35 (all_cons fact36 (all_cons fact37 (all_cons fact38 (all_cons fact39 (all_cons fact40 (all_cons fact41 (all_cons fact42 (all_cons fact43 (all_cons fact44 (all_cons fact45 (all_cons fact46 (all_cons fact47 (all_cons fact48 (all_cons fact49 (all_cons fact50 (all_cons fact51 (all_cons fact52 (all_cons fact53 (all_cons fact54 (all_cons fact55 (all_cons fact56 (all_cons fact57 (all_cons fact58 (all_cons fact59 (all_cons fact60 (all_cons fact61 (all_cons fact62 (all_cons fact63 (all_cons fact64 (all_cons fact65 (all_cons fact66 (all_cons fact67 (all_cons fact68 (all_cons fact69 (all_cons fact70 (all_cons fact71 (all_cons fact72 (all_cons fact73 (all_cons fact74 (all_cons fact75 (all_cons fact76 (all_cons fact77 (all_cons fact78 (all_cons fact79 (all_cons fact80 (all_cons fact81 (all_cons fact82 (all_cons fact83 (all_cons fact84 (all_cons fact85 (all_cons fact86 (all_cons fact87 (all_cons fact88 (all_cons fact89 (all_cons fact90 (all_cons fact91 (all_cons fact92 (all_cons fact93 (all_cons fact94 (all_cons fact95 (all_cons fact96 (all_cons fact97 (all_cons fact98 (all_cons fact99 (all_cons fact100 (all_cons fact101 (all_cons fact102 (all_cons fact103 (all_cons fact104 (all_cons fact105 (all_cons fact106 (all_cons fact107 (all_cons fact108 (all_cons fact109 (all_cons fact110 (all_cons fact111 all_nil))))))))))))))))))))))))))))))))))))))))))))))))))))))))))))))))))))))))))))))))))))))))))))))))))))))))))))))))
end p8
set_option maxRecDepth 100000 in
theorem spec8_0 : NatOk Try.prog (specNat (spP)) :=
  spec_of_check good (facts := p8.facts) p8.facts_ok (anns := annP) (plainAnns_ok _ (by kernel_rfl)) (nats := natl9) natl9_ok (n := 3000) (by kernel_rfl)
noncomputable def natl10 : List Nat1 := specNat (spP) :: natl9
theorem natl10_ok : ∀ x ∈ natl10, NatOk Try.prog x := by
  intro x hx
  rcases List.mem_cons.1 hx with rfl | hx
  · exact spec8_0
  exact natl9_ok x hx

end Go.Proofs.Ytmcifbikfjmmfaa.drawsPlays
