/-
  DrawsHolds: contracts of functions, part 2.
-/
import Derived.Test.YtmcifbikfjmmfaaRows
import Derived.Test.YtmcifbikfjmmfaaNat
import Derived.WalkKit
import Derived.ProofKit
import Derived.OpenShut
import Derived.ChangeOld
import Derived.Below
import Derived.KernelRfl
import Derived.Lib.SmallJoins
import Derived.Test.YtmcifbikfjmmfaaDrawsHoldsParta
namespace Go.Proofs.Ytmcifbikfjmmfaa.drawsHolds
open Go.ChangeShapes Go.WideShapes Go.ChangeAt Go.RowKit
open Go.SX
set_option linter.unusedVariables false
set_option linter.unusedSimpArgs false
set_option maxRecDepth 100000
noncomputable section
abbrev J0 : E := .var 5
abbrev J1 : E := .var 4
abbrev J2 : E := .fn 132 (.pr J1 J0)
abbrev J3 : E := .cmp .lss J1 (.int 0)
abbrev J4 : E := .var 1
abbrev J5 : E := .not (.cmp .lss (.int 300) J4)
abbrev J6 : E := .var 3
abbrev J7 : E := .not (.cmp .lss J4 J6)
abbrev J8 : E := .not (.cmp .lss J6 (.int 0))
abbrev J9 : E := .cmp .lss (.ar .sub .i64 J4 J6) J1
abbrev J10 : E := .cmp .lss (.fn 7 (.pr J4 J6)) J1
abbrev J11 : E := .not J2
abbrev J12 : E := .fn 133 J0
abbrev J13 : E := .not (.cmp .lss J4 (.int 0))
abbrev J14 : E := .var 0
abbrev J15 : E := .cmp .eql J4 (.fn 0 J14)
abbrev J16 : E := .not J10
abbrev J17 : E := .var 10
abbrev J18 : E := .cmp .eql J17 (.int 0)
abbrev J19 : E := .ar .add .i64 J17 (.int 1)
abbrev J20 : E := .var 12
abbrev J21 : E := .var 11
abbrev J22 : E := .cmp .eql J20 (.fn 0 J21)
abbrev J23 : E := .cmp .lss J17 (.int 1)
abbrev J24 : E := .not J23
abbrev J25 : E := .cmp .eql J20 J17
abbrev J26 : E := .and J24 J25
abbrev J27 : E := .and J22 J26
abbrev J28 : E := .cmp .lss J17 J0
abbrev J29 : E := .not J28
abbrev J30 : E := .cmp .lss J0 J17
abbrev J31 : E := .not J30
abbrev J32 : E := .and J31 J26
abbrev J33 : E := .and J22 J32
abbrev J34 : E := .and J29 J33
abbrev J35 : E := .and J12 J34
abbrev J36 : E := .and J11 J35
abbrev J37 : E := .and J11 J12
abbrev J38 : E := .pr J14 J6
abbrev J39 : E := .pr J0 J38
abbrev J40 : E := .pr J1 J39
abbrev J41 : E := .pr (.int 0) J40
abbrev J42 : E := .var 26
abbrev J43 : E := .cmp .lss J42 J1
abbrev J44 : E := .cmp .eql J0 (.fn 6 (.pr (.int 0) J42))
abbrev J45 : E := .and J11 (.and J12 (.and J43 J44))
abbrev J46 : E := .var 27
abbrev J47 : E := .cmp .lss J46 (.int 0)
abbrev J48 : E := .not J47
abbrev J49 : E := .cmp .eql J46 (.fn 6 (.pr J6 J42))
abbrev J50 : E := .cmp .eql J42 (.int 0)
abbrev J51 : E := .and J49 J50
abbrev J52 : E := .not J43
abbrev J53 : E := .not (.cmp .lss J1 J42)
abbrev J54 : E := .var 24
abbrev J55 : E := .cmp .lss J54 (.int 1)
abbrev J56 : E := .not J55
abbrev J57 : E := .cmp .eql J54 J42
abbrev J58 : E := .var 23
abbrev J59 : E := .cmp .eql J54 (.fn 0 J58)
abbrev J60 : E := .and J57 J59
abbrev J61 : E := .and J56 J60
abbrev J62 : E := .and J49 J61
abbrev J63 : E := .and J15 J62
abbrev J64 : E := .and J13 J63
abbrev J65 : E := .and J5 J64
abbrev J66 : E := .and J8 J65
abbrev J67 : E := .and J7 J66
abbrev J68 : E := .not (.cmp .lss (.int 2147483648) J54)
abbrev J69 : E := .cmp .lss (.fn 7 (.pr J0 J19)) (.fn 7 (.pr J0 J17))
abbrev J70 : E := .cmp .lss J46 J4
abbrev J71 : E := .and J15 J51
abbrev J72 : E := .and J15 (.and J49 J60)
abbrev J73 : E := .and J53 J61
abbrev J74 : E := .cmp .lss (.fn 7 (.pr J0 J19)) (.int 0)
abbrev J75 : E := .not J74
abbrev J76 : E := .and J11 (.and J12 (.and J44 J53))
abbrev J77 : E := .var 21
abbrev J78 : E := .var 20
abbrev J79 : E := .cmp .eql J77 (.fn 0 J78)
abbrev J80 : E := .and (.not (.cmp .lss (.int 300) J77)) (.and (.not (.cmp .lss J77 (.int 1))) J79)
abbrev J81 : E := .pr J42 J40
abbrev J82 : E := .pr J78 J81
abbrev J83 : E := .pr J58 J82
abbrev J84 : E := .fn 121 J83
abbrev J85 : E := .pr (.fn 40 J58) J40
abbrev J86 : E := .fn 102 J85
abbrev J87 : E := .and J11 (.and J12 (.and J28 J27))
abbrev J88 : E := .fn 131 J14
abbrev J89 : E := .and J11 (.and J12 (.and J88 J80))
abbrev J90 : E := .wr .i64 (.ar .rem .u64 (.fn 1 (.pr J14 J46)) (.wr .u64 J77))
abbrev J91 : E := .cmp .eql J46 (.fn 6 (.pr J6 J1))
abbrev J92 : E := .cmp .lss (.var 22) J77
abbrev J93 : E := .not J92
abbrev J94 : E := .and J93 J80
abbrev J95 : E := .ar .add .i64 J90 (.int 1)
abbrev J96 : E := .cmp .eql (.var 22) J95
abbrev J97 : E := .not (.cmp .lss (.int 2147483648) J90)
abbrev J98 : E := .not J96
abbrev J99 : E := .cmp .eql J90 (.int 0)
abbrev J100 : E := .not J99
abbrev J101 : E := .and J11 (.and J12 (.and J88 (.and J96 (.and J100 J94))))
abbrev J102 : E := .cmp .lss (.fn 7 (.pr J77 J95)) (.int 0)
abbrev J103 : E := .not J102
abbrev J104 : E := .and J11 (.and J12 (.and J88 (.and J98 (.and J100 J94))))
abbrev J105 : E := .and J11 (.and J12 J50)
abbrev J106 : E := .ar .add .i64 J42 (.int 1)
abbrev J107 : E := .cmp .eql (.fn 7 (.pr J77 J95)) (.int 0)
abbrev J108 : E := .not J107
abbrev J109 : E := .and J98 (.and J99 (.and J108 J80))
abbrev J110 : E := .and J88 J109
abbrev J111 : E := .and J12 J110
abbrev J112 : E := .and J11 J111
abbrev J113 : E := .and J13 J71
abbrev J114 : E := .and J5 J113
abbrev J115 : E := .and J8 J114
abbrev J116 : E := .and J16 J115
abbrev J117 : E := .and J43 J116
abbrev J118 : E := .and J12 J117
abbrev J119 : E := .and J11 J118
abbrev J120 : E := .and J98 (.and J99 (.and J108 J94))
abbrev J121 : E := .and J88 J120
abbrev J122 : E := .and J12 J121
abbrev J123 : E := .and J11 J122
abbrev J124 : E := .cmp .eql (.ar .add .i64 J46 (.int 1)) (.fn 6 (.pr J6 J106))
abbrev J125 : E := .and J11 (.and J12 (.and J43 (.and J16 J66)))
abbrev J126 : E := .cmp .eql J0 (.fn 6 (.pr J77 J42))
abbrev J127 : E := .and J50 (.and J126 J94)
abbrev J128 : E := .cmp .eql J0 (.fn 6 (.pr (.int 0) J106))
abbrev J129 : E := .fn 121 (.pr (.fn 10 (.int 0)) J82)
abbrev J130 : E := .and J16 (.and J11 (.and J12 (.and J7 (.and J8 (.and J15 (.and J88 (.and J49 J127)))))))
abbrev J131 : E := .pr J106 J40
abbrev J132 : E := .pr (.fn 10 (.int 0)) J131
abbrev J133 : E := .pr (.fn 23 (.pr (.fn 1 (.pr J78 J90)) (.fn 10 (.int 0)))) J132
abbrev J134 : E := .fn 121 J133
abbrev J135 : E := .cmp .lss (.fn 7 (.pr J1 J106)) (.fn 7 (.pr J1 J42))
abbrev J136 : E := .cmp .lss (.fn 7 (.pr J1 J106)) (.int 0)
abbrev J137 : E := .not J136
abbrev J138 : E := .cmp .eql J0 (.fn 6 (.pr (.fn 7 (.pr J77 J95)) J106))
abbrev J139 : E := .cmp .eql J0 (.fn 6 (.pr (.fn 6 (.pr J90 (.fn 7 (.pr J77 J95)))) J106))
abbrev J140 : E := .cmp .eql J0 (.fn 6 (.pr J90 J106))
abbrev J141 : E := .and J93 J79
abbrev J142 : E := .and J59 J141
abbrev J143 : E := .and J57 J142
abbrev J144 : E := .and J56 J143
abbrev J145 : E := .and J126 J144
abbrev J146 : E := .and J49 J145
abbrev J147 : E := .and J15 J146
abbrev J148 : E := .and J13 J147
abbrev J149 : E := .and J5 J148
abbrev J150 : E := .and J8 J149
abbrev J151 : E := .and J16 J150
abbrev J152 : E := .pr (.fn 4 (.pr J78 (.pr J95 (.fn 6 (.pr J95 (.fn 7 (.pr J77 J95))))))) J131
abbrev J153 : E := .pr (.fn 3 (.pr (.fn 4 (.pr J78 (.pr (.int 0) J90))) (.fn 4 (.pr J78 (.pr J95 (.fn 6 (.pr J95 (.fn 7 (.pr J77 J95))))))))) J131
abbrev J154 : E := .pr (.fn 4 (.pr J78 (.pr (.int 0) J90))) J131
abbrev J155 : E := .and J59 J94
abbrev J156 : E := .and J57 J155
abbrev J157 : E := .and J56 J156
abbrev J158 : E := .and J84 J157
abbrev J159 : E := .and J49 J158
abbrev J160 : E := .and J88 J159
abbrev J161 : E := .and J15 J160
abbrev J162 : E := .and J13 J161
abbrev J163 : E := .and J5 J162
abbrev J164 : E := .and J8 J163
abbrev J165 : E := .and J12 J164
abbrev J166 : E := .and J11 J165
abbrev J167 : E := .and J16 J166
abbrev J168 : E := .pr (.fn 3 (.pr J58 (.fn 23 (.pr (.fn 1 (.pr J78 J90)) (.fn 10 (.int 0)))))) J132
abbrev J169 : E := .fn 121 J168
abbrev J170 : E := .and J126 J157
abbrev J171 : E := .and J84 J170
abbrev J172 : E := .and J49 J171
abbrev J173 : E := .and J88 J172
abbrev J174 : E := .and J15 J173
abbrev J175 : E := .and J13 J174
abbrev J176 : E := .and J5 J175
abbrev J177 : E := .and J8 J176
abbrev J178 : E := .and J12 J177
abbrev J179 : E := .and J11 J178
abbrev J180 : E := .and J16 J179
abbrev J181 : E := .and J100 J180
namespace p4
def f0 : E := (.imp (.cmp .lss J0 J1) J2)
theorem fact0 (ρ : Env) : E.B ρ f0 = true := by
  unfold f0
  rw [sm_B_imp]
  intro p0
  rw [z132]
  simp only [smA] at *
  omega
def f1 : E := (.imp J3 J2)
theorem fact1 (ρ : Env) : E.B ρ f1 = true := by
  unfold f1
  rw [sm_B_imp]
  intro p0
  rw [z132]
  simp only [smA] at *
  omega
def f2 : E := (.imp (.cmp .lss (.int 65536) J0) J2)
theorem fact2 (ρ : Env) : E.B ρ f2 = true := by
  unfold f2
  rw [sm_B_imp]
  intro p0
  rw [z132]
  simp only [smA] at *
  omega
def f3 : E := (.imp (.cmp .lss J0 (.int 0)) J2)
theorem fact3 (ρ : Env) : E.B ρ f3 = true := by
  unfold f3
  rw [sm_B_imp]
  intro p0
  rw [z132]
  simp only [smA] at *
  omega
def f4 : E := (.imp (.and J5 (.and J7 (.and J8 J9))) J10)
theorem fact4 (ρ : Env) : E.B ρ f4 = true := by
  unfold f4
  rw [sm_B_imp]
  simp only [sm_B_and]
  rintro ⟨p0, p1, p2, p3⟩
  try simp only [smA, smW] at *
  obtain ⟨a3, ea3, qa3⟩ := cs_i64 ((E.I ρ J4) - (E.I ρ J6))
  try simp only [ea3] at *
  omega
def f5 : E := (.imp (.and (.not (.cmp .lss J0 (.int 0))) (.and (.not (.cmp .lss (.int 65536) J0)) (.and (.not J3) (.not (.cmp .lss J0 J1))))) J11)
theorem fact5 (ρ : Env) : E.B ρ f5 = true := by
  unfold f5
  rw [sm_B_imp]
  simp only [sm_B_and]
  rintro ⟨p0, p1, p2, p3⟩
  rw [sm_B_not]
  rw [z132]
  simp only [smA] at *
  omega
def f6 : E := (.imp (.and J12 (.and (.not J9) (.and J7 (.and J8 (.and J5 (.and J13 J15)))))) J16)
theorem fact6 (ρ : Env) : E.B ρ f6 = true := by
  unfold f6
  rw [sm_B_imp]
  simp only [sm_B_and]
  rintro ⟨p0, p1, p2, p3, p4, p5, p6⟩
  have hb0 := t133_of p0
  try simp only [smA, smW] at *
  have n4 := @fn0_nn ρ J14
  obtain ⟨a4, ea4, qa4⟩ := cs_i64 ((E.I ρ J4) - (E.I ρ J6))
  try simp only [ea4] at *
  omega
def f7 : E := (.imp J18 (.cmp .eql J19 (.int 1)))
theorem fact7 (ρ : Env) : E.B ρ f7 = true := by
  unfold f7
  rw [sm_B_imp]
  intro p0
  try simp only [smA, smW] at *
  obtain ⟨a1, ea1, qa1⟩ := cs_i64 ((E.I ρ J17) + (1))
  try simp only [ea1] at *
  omega
def f8 : E := (.imp J11 (.not J3))
theorem fact8 (ρ : Env) : E.B ρ f8 = true := by
  unfold f8
  rw [sm_B_imp]
  intro p0
  have hb0 := t132_not p0
  try simp only [smA, smW] at *
  omega
def f9 : E := (.imp (.and J11 (.and J12 J27)) (.not (.cmp .lss J20 (.int 0))))
theorem fact9 (ρ : Env) : E.B ρ f9 = true := by
  unfold f9
  rw [sm_B_imp]
  simp only [sm_B_and]
  rintro ⟨p0, p1, p2, p3, p4⟩
  have hb0 := t132_not p0
  have hb1 := t133_of p1
  try simp only [smA, smW] at *
  have n2 := @fn0_nn ρ J21
  omega
def f10 : E := (.imp J36 (.not (.cmp .lss J20 (.int 1))))
theorem fact10 (ρ : Env) : E.B ρ f10 = true := by
  unfold f10
  rw [sm_B_imp]
  simp only [sm_B_and]
  rintro ⟨p0, p1, p2, p3, p4, p5, p6⟩
  have hb0 := t132_not p0
  have hb1 := t133_of p1
  try simp only [smA, smW] at *
  have n4 := @fn0_nn ρ J21
  omega
def f11 : E := (.imp J18 (.not (.cmp .lss J19 (.int 1))))
theorem fact11 (ρ : Env) : E.B ρ f11 = true := by
  unfold f11
  rw [sm_B_imp]
  intro p0
  try simp only [smA, smW] at *
  obtain ⟨a1, ea1, qa1⟩ := cs_i64 ((E.I ρ J17) + (1))
  try simp only [ea1] at *
  omega
def f12 : E := (.imp (.and J18 (.and J11 J29)) (.cmp .eql J0 (.int 0)))
theorem fact12 (ρ : Env) : E.B ρ f12 = true := by
  unfold f12
  rw [sm_B_imp]
  simp only [sm_B_and]
  rintro ⟨p0, p1, p2⟩
  have hb1 := t132_not p1
  try simp only [smA, smW] at *
  omega
def f13 : E := (.imp (.and J11 (.and J12 (.and (.not (.cmp .lss (.var 13) J20)) J27))) (.not (.cmp .lss (.var 13) (.int 0))))
theorem fact13 (ρ : Env) : E.B ρ f13 = true := by
  unfold f13
  rw [sm_B_imp]
  simp only [sm_B_and]
  rintro ⟨p0, p1, p2, p3, p4, p5⟩
  have hb0 := t132_not p0
  have hb1 := t133_of p1
  try simp only [smA, smW] at *
  have n3 := @fn0_nn ρ J21
  omega
def f14 : E := (.imp J36 (.not (.cmp .lss (.int 300) J20)))
theorem fact14 (ρ : Env) : E.B ρ f14 = true := by
  unfold f14
  rw [sm_B_imp]
  simp only [sm_B_and]
  rintro ⟨p0, p1, p2, p3, p4, p5, p6⟩
  have hb0 := t132_not p0
  have hb1 := t133_of p1
  try simp only [smA, smW] at *
  have n4 := @fn0_nn ρ J21
  omega
def f15 : E := (.imp (.and J18 (.and J11 J28)) (.not (.cmp .lss J0 J19)))
theorem fact15 (ρ : Env) : E.B ρ f15 = true := by
  unfold f15
  rw [sm_B_imp]
  simp only [sm_B_and]
  rintro ⟨p0, p1, p2⟩
  have hb1 := t132_not p1
  try simp only [smA, smW] at *
  obtain ⟨a2, ea2, qa2⟩ := cs_i64 ((E.I ρ J17) + (1))
  try simp only [ea2] at *
  omega
def f16 : E := (.imp (.and J18 (.and J29 J37)) (.fn 121 (.pr (.fn 10 (.int 0)) (.pr (.fn 10 (.int 0)) J41))))
theorem fact16 (ρ : Env) : E.B ρ f16 = true := by
  unfold f16
  rw [sm_B_imp]
  simp only [sm_B_and]
  rintro ⟨p0, p1, p2, p3⟩
  have g0 : E.I ρ J0 = (0) := by
    have hb2 := t132_not p2
    have hb3 := t133_of p3
    try simp only [smA, smW] at *
    omega
  exact t121_zero (by rw [g0] <;> rfl) ints_nil rfl
def f17 : E := (.imp (.and J11 (.and J12 (.and J28 (.and J22 J25)))) (.not (.cmp .lss (.int 2147483648) (.fn 6 (.pr J20 (.int 1))))))
theorem fact17 (ρ : Env) : E.B ρ f17 = true := by
  unfold f17
  rw [sm_B_imp]
  simp only [sm_B_and]
  rintro ⟨p0, p1, p2, p3, p4⟩
  have hb0 := t132_not p0
  have hb1 := t133_of p1
  try simp only [smA, smW] at *
  have n4 := @fn0_nn ρ J21
  omega
def f18 : E := (.imp (.and J18 J37) (.fn 103 (.pr (.fn 23 (.pr J17 (.fn 10 (.int 0)))) J19)))
theorem fact18 (ρ : Env) : E.B ρ f18 = true := by
  unfold f18
  rw [sm_B_imp]
  simp only [sm_B_and]
  rintro ⟨p0, p1, p2⟩
  obtain ⟨g0, g1⟩ : E.I ρ J17 = (0) ∧ E.I ρ J19 = (1) := by
    have hb1 := t132_not p1
    have hb2 := t133_of p2
    try simp only [smA, smW] at *
    obtain ⟨a1, ea1, qa1⟩ := cs_i64 ((E.I ρ J17) + (1))
    try simp only [ea1] at *
    omega
  exact t103_first (i := J17) (by simp only [ints_app, ints_cons, ints_nil, I_nth, List.nil_append]) g0 g1
def f19 : E := (.imp J45 J48)
theorem fact19 (ρ : Env) : E.B ρ f19 = true := by
  unfold f19
  rw [sm_B_imp]
  simp only [sm_B_and]
  rintro ⟨p0, p1, p2, p3⟩
  have hb0 := t132_not p0
  have hb1 := t133_of p1
  try simp only [smA, smW] at *
  omega
def f20 : E := (.imp (.and J11 (.and J12 (.and J8 J51))) J48)
theorem fact20 (ρ : Env) : E.B ρ f20 = true := by
  unfold f20
  rw [sm_B_imp]
  simp only [sm_B_and]
  rintro ⟨p0, p1, p2, p3, p4⟩
  have hb0 := t132_not p0
  have hb1 := t133_of p1
  try simp only [smA, smW] at *
  omega
def f21 : E := (.imp (.and J11 (.and J12 (.and J52 (.and J49 (.and J53 J50))))) (.cmp .eql J1 (.int 0)))
theorem fact21 (ρ : Env) : E.B ρ f21 = true := by
  unfold f21
  rw [sm_B_imp]
  simp only [sm_B_and]
  rintro ⟨p0, p1, p2, p3, p4, p5⟩
  have hb0 := t132_not p0
  have hb1 := t133_of p1
  try simp only [smA, smW] at *
  omega
def f22 : E := (.imp (.and J11 (.and J12 J67)) J48)
theorem fact22 (ρ : Env) : E.B ρ f22 = true := by
  unfold f22
  rw [sm_B_imp]
  simp only [sm_B_and]
  rintro ⟨p0, p1, p2, p3, p4, p5, p6, p7, p8, p9, p10⟩
  have hb0 := t132_not p0
  have hb1 := t133_of p1
  try simp only [smA, smW] at *
  have n3 := @fn0_nn ρ J14
  have n7 := @fn0_nn ρ J58
  omega
def f23 : E := (.imp (.and J11 (.and J12 (.and J52 (.and J49 (.and J53 J60))))) J68)
theorem fact23 (ρ : Env) : E.B ρ f23 = true := by
  unfold f23
  rw [sm_B_imp]
  simp only [sm_B_and]
  rintro ⟨p0, p1, p2, p3, p4, p5, p6⟩
  have hb0 := t132_not p0
  have hb1 := t133_of p1
  try simp only [smA, smW] at *
  have n6 := @fn0_nn ρ J58
  omega
def f24 : E := (.imp J18 J69)
theorem fact24 (ρ : Env) : E.B ρ f24 = true := by
  unfold f24
  rw [sm_B_imp]
  intro p0
  try simp only [smA, smW] at *
  obtain ⟨a2, ea2, qa2⟩ := cs_i64 ((E.I ρ J17) + (1))
  try simp only [ea2] at *
  omega
def f25 : E := (.imp J45 J70)
theorem fact25 (ρ : Env) : E.B ρ f25 = true := by
  unfold f25
  rw [sm_B_imp]
  simp only [sm_B_and]
  rintro ⟨p0, p1, p2, p3⟩
  have hb0 := t132_not p0
  have hb1 := t133_of p1
  try simp only [smA, smW] at *
  omega
def f26 : E := (.imp (.and J11 (.and J12 J51)) (.cmp .eql J46 J6))
theorem fact26 (ρ : Env) : E.B ρ f26 = true := by
  unfold f26
  rw [sm_B_imp]
  simp only [sm_B_and]
  rintro ⟨p0, p1, p2, p3⟩
  have hb0 := t132_not p0
  have hb1 := t133_of p1
  try simp only [smA, smW] at *
  omega
def f27 : E := (.imp (.and J11 (.and J12 (.and J43 (.and J16 (.and J7 J71))))) J70)
theorem fact27 (ρ : Env) : E.B ρ f27 = true := by
  unfold f27
  rw [sm_B_imp]
  simp only [sm_B_and]
  rintro ⟨p0, p1, p2, p3, p4, p5, p6, p7⟩
  have hb0 := t132_not p0
  have hb1 := t133_of p1
  try simp only [smA, smW] at *
  have n5 := @fn0_nn ρ J14
  omega
def f28 : E := (.imp (.and J11 (.and J12 (.and J43 (.and J16 J72)))) J70)
theorem fact28 (ρ : Env) : E.B ρ f28 = true := by
  unfold f28
  rw [sm_B_imp]
  simp only [sm_B_and]
  rintro ⟨p0, p1, p2, p3, p4, p5, p6, p7⟩
  have hb0 := t132_not p0
  have hb1 := t133_of p1
  try simp only [smA, smW] at *
  have n5 := @fn0_nn ρ J14
  have n8 := @fn0_nn ρ J58
  omega
def f29 : E := (.imp (.and J11 (.and J12 (.and J52 (.and J49 J73)))) (.not (.cmp .lss J1 (.int 1))))
theorem fact29 (ρ : Env) : E.B ρ f29 = true := by
  unfold f29
  rw [sm_B_imp]
  simp only [sm_B_and]
  rintro ⟨p0, p1, p2, p3, p4, p5, p6, p7⟩
  have hb0 := t132_not p0
  have hb1 := t133_of p1
  try simp only [smA, smW] at *
  have n6 := @fn0_nn ρ J58
  omega
def f30 : E := (.imp (.and J18 (.and J11 J28)) J75)
theorem fact30 (ρ : Env) : E.B ρ f30 = true := by
  unfold f30
  rw [sm_B_imp]
  simp only [sm_B_and]
  rintro ⟨p0, p1, p2⟩
  have hb1 := t132_not p1
  try simp only [smA, smW] at *
  obtain ⟨a2, ea2, qa2⟩ := cs_i64 ((E.I ρ J17) + (1))
  try simp only [ea2] at *
  omega
def f31 : E := (.imp J76 J52)
theorem fact31 (ρ : Env) : E.B ρ f31 = true := by
  unfold f31
  rw [sm_B_imp]
  simp only [sm_B_and]
  rintro ⟨p0, p1, p2, p3⟩
  have hb0 := t132_not p0
  have hb1 := t133_of p1
  try simp only [smA, smW] at *
  omega
def f32 : E := (.imp (.and J11 (.and J12 J80)) (.not (.cmp .eql (.wr .u64 J77) (.int 0))))
theorem fact32 (ρ : Env) : E.B ρ f32 = true := by
  unfold f32
  rw [sm_B_imp]
  simp only [sm_B_and]
  rintro ⟨p0, p1, p2, p3, p4⟩
  have hb0 := t132_not p0
  have hb1 := t133_of p1
  try simp only [smA, smW] at *
  have n2 := @fn0_nn ρ J78
  obtain ⟨a2, ea2, qa2⟩ := cs_u64 (E.I ρ J77)
  try simp only [ea2] at *
  omega
def f33 : E := (.imp (.and J52 (.and J11 (.and J12 (.and J49 (.and J53 J84))))) J86)
theorem fact33 (ρ : Env) : E.B ρ f33 = true := by
  unfold f33
  rw [sm_B_imp]
  simp only [sm_B_and]
  rintro ⟨p0, p1, p2, p3, p4, p5⟩
  have g0 : E.I ρ J1 ≤ E.I ρ J42 := by
    have hb1 := t132_not p1
    have hb2 := t133_of p2
    try simp only [smA, smW] at *
    omega
  exact t102_end p5 (by (try simp only [sm_I_int]); omega) ints_sort
def f34 : E := (.imp J87 (.cmp .eql (.fn 6 (.pr J20 (.int 1))) J19))
theorem fact34 (ρ : Env) : E.B ρ f34 = true := by
  unfold f34
  rw [sm_B_imp]
  simp only [sm_B_and]
  rintro ⟨p0, p1, p2, p3, p4, p5⟩
  have hb0 := t132_not p0
  have hb1 := t133_of p1
  try simp only [smA, smW] at *
  have n4 := @fn0_nn ρ J21
  obtain ⟨a4, ea4, qa4⟩ := cs_i64 ((E.I ρ J17) + (1))
  try simp only [ea4] at *
  omega
def f35 : E := (.imp (.and J11 (.and J12 (.and J29 (.and J22 (.and J31 J25))))) (.cmp .eql J0 (.fn 6 (.pr J20 (.int 0)))))
theorem fact35 (ρ : Env) : E.B ρ f35 = true := by
  unfold f35
  rw [sm_B_imp]
  simp only [sm_B_and]
  rintro ⟨p0, p1, p2, p3, p4, p5⟩
  have hb0 := t132_not p0
  have hb1 := t133_of p1
  try simp only [smA, smW] at *
  have n4 := @fn0_nn ρ J21
  omega
def f36 : E := (.imp (.and J11 (.and J12 (.and J44 (.and J53 J50)))) (.cmp .eql J1 (.int 0)))
theorem fact36 (ρ : Env) : E.B ρ f36 = true := by
  unfold f36
  rw [sm_B_imp]
  simp only [sm_B_and]
  rintro ⟨p0, p1, p2, p3, p4⟩
  have hb0 := t132_not p0
  have hb1 := t133_of p1
  try simp only [smA, smW] at *
  omega
def f37 : E := (.imp (.and J11 (.and J12 (.and J44 J61))) J68)
theorem fact37 (ρ : Env) : E.B ρ f37 = true := by
  unfold f37
  rw [sm_B_imp]
  simp only [sm_B_and]
  rintro ⟨p0, p1, p2, p3, p4, p5⟩
  have hb0 := t132_not p0
  have hb1 := t133_of p1
  try simp only [smA, smW] at *
  have n4 := @fn0_nn ρ J58
  omega
def f38 : E := (.imp J89 (.not (.cmp .lss J90 (.int 0))))
theorem fact38 (ρ : Env) : E.B ρ f38 = true := by
  unfold f38
  rw [sm_B_imp]
  simp only [sm_B_and]
  rintro ⟨p0, p1, p2, p3, p4, p5⟩
  have hb0 := t132_not p0
  have hb1 := t133_of p1
  have hn0 := t131_nth p2 J46
  try simp only [smA, smW] at *
  have n2 := @fn0_nn ρ J78
  obtain ⟨a3, ea3, qa3⟩ := cs_u64 (E.I ρ J77)
  try simp only [ea3] at *
  obtain ⟨a4, ea4, qa4⟩ := cs_rem (E.I ρ (.fn 1 (.pr J14 J46))) a3
  try simp only [ea4] at *
  obtain ⟨a5, ea5, qa5⟩ := cs_i64 a4
  try simp only [ea5] at *
  omega
def f39 : E := (.imp (.and J11 (.and J12 (.and J52 (.and J49 (.and J53 J57))))) (.cmp .eql J54 J1))
theorem fact39 (ρ : Env) : E.B ρ f39 = true := by
  unfold f39
  rw [sm_B_imp]
  simp only [sm_B_and]
  rintro ⟨p0, p1, p2, p3, p4, p5⟩
  have hb0 := t132_not p0
  have hb1 := t133_of p1
  try simp only [smA, smW] at *
  omega
def f40 : E := (.imp J87 (.not (.cmp .lss J19 (.int 1))))
theorem fact40 (ρ : Env) : E.B ρ f40 = true := by
  unfold f40
  rw [sm_B_imp]
  simp only [sm_B_and]
  rintro ⟨p0, p1, p2, p3, p4, p5⟩
  have hb0 := t132_not p0
  have hb1 := t133_of p1
  try simp only [smA, smW] at *
  have n4 := @fn0_nn ρ J21
  obtain ⟨a4, ea4, qa4⟩ := cs_i64 ((E.I ρ J17) + (1))
  try simp only [ea4] at *
  omega
def f41 : E := (.imp (.and J29 (.and (.fn 103 (.pr J21 J17)) (.and J31 J37))) (.fn 121 (.pr (.fn 10 (.int 0)) (.pr J21 J41))))
theorem fact41 (ρ : Env) : E.B ρ f41 = true := by
  unfold f41
  rw [sm_B_imp]
  simp only [sm_B_and]
  rintro ⟨p0, p1, p2, p3, p4⟩
  have g0 : E.I ρ J17 = E.I ρ J0 := by
    have hb3 := t132_not p3
    have hb4 := t133_of p4
    try simp only [smA, smW] at *
    omega
  exact t121_zero (by rw [← g0]; have h := p1; rw [z103] at h; exact h) ints_nil rfl
def f42 : E := (.imp (.and J11 (.and J12 (.and J44 J73))) (.not (.cmp .lss J1 (.int 1))))
theorem fact42 (ρ : Env) : E.B ρ f42 = true := by
  unfold f42
  rw [sm_B_imp]
  simp only [sm_B_and]
  rintro ⟨p0, p1, p2, p3, p4, p5, p6⟩
  have hb0 := t132_not p0
  have hb1 := t133_of p1
  try simp only [smA, smW] at *
  have n5 := @fn0_nn ρ J58
  omega
def f43 : E := (.imp J89 (.cmp .lss J90 J77))
theorem fact43 (ρ : Env) : E.B ρ f43 = true := by
  unfold f43
  rw [sm_B_imp]
  simp only [sm_B_and]
  rintro ⟨p0, p1, p2, p3, p4, p5⟩
  have hb0 := t132_not p0
  have hb1 := t133_of p1
  have hn0 := t131_nth p2 J46
  try simp only [smA, smW] at *
  have n2 := @fn0_nn ρ J78
  obtain ⟨a3, ea3, qa3⟩ := cs_u64 (E.I ρ J77)
  try simp only [ea3] at *
  obtain ⟨a4, ea4, qa4⟩ := cs_rem (E.I ρ (.fn 1 (.pr J14 J46))) a3
  try simp only [ea4] at *
  obtain ⟨a5, ea5, qa5⟩ := cs_i64 a4
  try simp only [ea5] at *
  omega
def f44 : E := (.imp (.and J11 J59) (.cmp .eql J54 (.fn 0 (.fn 40 J58))))
theorem fact44 (ρ : Env) : E.B ρ f44 = true := by
  unfold f44
  rw [sm_B_imp]
  simp only [sm_B_and]
  rintro ⟨p0, p1⟩
  have hb0 := t132_not p0
  have ho0 := I_sortlen (ρ := ρ) (o := J58)
  try simp only [smA, smW] at *
  have n2 := @fn0_nn ρ J58
  have n3 := @fn0_nn ρ (.fn 40 J58)
  omega
def f45 : E := (.imp J87 (.not (.cmp .lss J0 J19)))
theorem fact45 (ρ : Env) : E.B ρ f45 = true := by
  unfold f45
  rw [sm_B_imp]
  simp only [sm_B_and]
  rintro ⟨p0, p1, p2, p3, p4, p5⟩
  have hb0 := t132_not p0
  have hb1 := t133_of p1
  try simp only [smA, smW] at *
  have n4 := @fn0_nn ρ J21
  obtain ⟨a4, ea4, qa4⟩ := cs_i64 ((E.I ρ J17) + (1))
  try simp only [ea4] at *
  omega
def f46 : E := (.imp (.and (.fn 121 (.pr J58 (.pr (.fn 10 (.int 0)) J81))) J76) J86)
theorem fact46 (ρ : Env) : E.B ρ f46 = true := by
  unfold f46
  rw [sm_B_imp]
  simp only [sm_B_and]
  rintro ⟨p0, p1, p2, p3, p4⟩
  have g0 : E.I ρ J1 ≤ E.I ρ J42 := by
    have hb1 := t132_not p1
    have hb2 := t133_of p2
    try simp only [smA, smW] at *
    omega
  exact t102_end p0 (by (try simp only [sm_I_int]); omega) ints_sort
def f47 : E := (.imp (.and J11 (.and J12 (.and (.not (.cmp .lss (.var 25) J54)) (.and J56 J59)))) (.not (.cmp .lss (.var 25) (.int 0))))
theorem fact47 (ρ : Env) : E.B ρ f47 = true := by
  unfold f47
  rw [sm_B_imp]
  simp only [sm_B_and]
  rintro ⟨p0, p1, p2, p3, p4⟩
  have hb0 := t132_not p0
  have hb1 := t133_of p1
  try simp only [smA, smW] at *
  have n3 := @fn0_nn ρ J58
  omega
def f48 : E := (.imp (.and J11 (.and J12 (.and J52 (.and J49 J53)))) J91)
theorem fact48 (ρ : Env) : E.B ρ f48 = true := by
  unfold f48
  rw [sm_B_imp]
  simp only [sm_B_and]
  rintro ⟨p0, p1, p2, p3, p4⟩
  have hb0 := t132_not p0
  have hb1 := t133_of p1
  try simp only [smA, smW] at *
  omega
def f49 : E := (.imp (.and J11 J22) (.cmp .eql (.fn 6 (.pr J20 (.int 1))) (.fn 6 (.pr (.fn 0 J21) (.int 1)))))
theorem fact49 (ρ : Env) : E.B ρ f49 = true := by
  unfold f49
  rw [sm_B_imp]
  simp only [sm_B_and]
  rintro ⟨p0, p1⟩
  have hb0 := t132_not p0
  try simp only [smA, smW] at *
  have n2 := @fn0_nn ρ J21
  omega
def f50 : E := (.imp (.and J11 (.and J12 (.and J44 (.and J53 J57)))) (.cmp .eql J54 J1))
theorem fact50 (ρ : Env) : E.B ρ f50 = true := by
  unfold f50
  rw [sm_B_imp]
  simp only [sm_B_and]
  rintro ⟨p0, p1, p2, p3, p4⟩
  have hb0 := t132_not p0
  have hb1 := t133_of p1
  try simp only [smA, smW] at *
  omega
def f51 : E := (.imp (.and J11 (.and J12 (.and J43 (.and J16 (.and J8 (.and J5 (.and J13 J72))))))) (.not (.cmp .lss (.int 2147483648) (.fn 6 (.pr J54 (.int 1))))))
theorem fact51 (ρ : Env) : E.B ρ f51 = true := by
  unfold f51
  rw [sm_B_imp]
  simp only [sm_B_and]
  rintro ⟨p0, p1, p2, p3, p4, p5, p6, p7, p8, p9, p10⟩
  have hb0 := t132_not p0
  have hb1 := t133_of p1
  try simp only [smA, smW] at *
  have n5 := @fn0_nn ρ J14
  have n8 := @fn0_nn ρ J58
  omega
def f52 : E := (.imp (.and J28 (.and (.fn 103 (.pr J21 J17)) (.and J22 (.and J24 (.and J25 J37))))) (.fn 103 (.pr (.fn 3 (.pr J21 (.fn 23 (.pr J17 (.fn 10 (.int 0)))))) J19)))
theorem fact52 (ρ : Env) : E.B ρ f52 = true := by
  unfold f52
  rw [sm_B_imp]
  simp only [sm_B_and]
  rintro ⟨p0, p1, p2, p3, p4, p5, p6⟩
  obtain ⟨g0, g1⟩ : (0) ≤ E.I ρ J17 ∧ E.I ρ J19 = E.I ρ (.fn 6 (.pr J17 (.int 1))) := by
    have hb5 := t132_not p5
    have hb6 := t133_of p6
    try simp only [smA, smW] at *
    have n4 := @fn0_nn ρ J21
    obtain ⟨a4, ea4, qa4⟩ := cs_i64 ((E.I ρ J17) + (1))
    try simp only [ea4] at *
    omega
  exact t103_step p1 (by simp only [ints_app, ints_cons, ints_nil, I_nth, List.nil_append]) (by (try simp only [sm_I_int]); omega) g1
def f53 : E := (.imp (.and J11 (.and J12 (.and J88 J94))) (.not (.cmp .lss (.var 22) J90)))
theorem fact53 (ρ : Env) : E.B ρ f53 = true := by
  unfold f53
  rw [sm_B_imp]
  simp only [sm_B_and]
  rintro ⟨p0, p1, p2, p3, p4, p5, p6⟩
  have hb0 := t132_not p0
  have hb1 := t133_of p1
  have hn0 := t131_nth p2 J46
  try simp only [smA, smW] at *
  have n3 := @fn0_nn ρ J78
  obtain ⟨a4, ea4, qa4⟩ := cs_u64 (E.I ρ J77)
  try simp only [ea4] at *
  obtain ⟨a5, ea5, qa5⟩ := cs_rem (E.I ρ (.fn 1 (.pr J14 J46))) a4
  try simp only [ea5] at *
  obtain ⟨a6, ea6, qa6⟩ := cs_i64 a5
  try simp only [ea6] at *
  omega
def f54 : E := (.imp J89 (.not (.cmp .lss J95 (.int 0))))
theorem fact54 (ρ : Env) : E.B ρ f54 = true := by
  unfold f54
  rw [sm_B_imp]
  simp only [sm_B_and]
  rintro ⟨p0, p1, p2, p3, p4, p5⟩
  have hb0 := t132_not p0
  have hb1 := t133_of p1
  have hn0 := t131_nth p2 J46
  try simp only [smA, smW] at *
  have n2 := @fn0_nn ρ J78
  obtain ⟨a3, ea3, qa3⟩ := cs_u64 (E.I ρ J77)
  try simp only [ea3] at *
  obtain ⟨a4, ea4, qa4⟩ := cs_rem (E.I ρ (.fn 1 (.pr J14 J46))) a3
  try simp only [ea4] at *
  obtain ⟨a5, ea5, qa5⟩ := cs_i64 a4
  try simp only [ea5] at *
  obtain ⟨a6, ea6, qa6⟩ := cs_i64 (a5 + (1))
  try simp only [ea6] at *
  omega
def f55 : E := (.imp J87 J69)
theorem fact55 (ρ : Env) : E.B ρ f55 = true := by
  unfold f55
  rw [sm_B_imp]
  simp only [sm_B_and]
  rintro ⟨p0, p1, p2, p3, p4, p5⟩
  have hb0 := t132_not p0
  have hb1 := t133_of p1
  try simp only [smA, smW] at *
  have n4 := @fn0_nn ρ J21
  obtain ⟨a4, ea4, qa4⟩ := cs_i64 ((E.I ρ J17) + (1))
  try simp only [ea4] at *
  omega
def f56 : E := (.imp (.and J11 (.and J12 (.and J44 (.and J49 J53)))) J91)
theorem fact56 (ρ : Env) : E.B ρ f56 = true := by
  unfold f56
  rw [sm_B_imp]
  simp only [sm_B_and]
  rintro ⟨p0, p1, p2, p3, p4⟩
  have hb0 := t132_not p0
  have hb1 := t133_of p1
  try simp only [smA, smW] at *
  omega
def f57 : E := (.imp J89 (.not (.cmp .lss J77 J95)))
theorem fact57 (ρ : Env) : E.B ρ f57 = true := by
  unfold f57
  rw [sm_B_imp]
  simp only [sm_B_and]
  rintro ⟨p0, p1, p2, p3, p4, p5⟩
  have hb0 := t132_not p0
  have hb1 := t133_of p1
  have hn0 := t131_nth p2 J46
  try simp only [smA, smW] at *
  have n2 := @fn0_nn ρ J78
  obtain ⟨a3, ea3, qa3⟩ := cs_u64 (E.I ρ J77)
  try simp only [ea3] at *
  obtain ⟨a4, ea4, qa4⟩ := cs_rem (E.I ρ (.fn 1 (.pr J14 J46))) a3
  try simp only [ea4] at *
  obtain ⟨a5, ea5, qa5⟩ := cs_i64 a4
  try simp only [ea5] at *
  obtain ⟨a6, ea6, qa6⟩ := cs_i64 (a5 + (1))
  try simp only [ea6] at *
  omega
def f58 : E := (.imp J87 J75)
theorem fact58 (ρ : Env) : E.B ρ f58 = true := by
  unfold f58
  rw [sm_B_imp]
  simp only [sm_B_and]
  rintro ⟨p0, p1, p2, p3, p4, p5⟩
  have hb0 := t132_not p0
  have hb1 := t133_of p1
  try simp only [smA, smW] at *
  have n4 := @fn0_nn ρ J21
  obtain ⟨a4, ea4, qa4⟩ := cs_i64 ((E.I ρ J17) + (1))
  try simp only [ea4] at *
  omega
def f59 : E := (.imp J89 (.not (.cmp .lss J77 J90)))
theorem fact59 (ρ : Env) : E.B ρ f59 = true := by
  unfold f59
  rw [sm_B_imp]
  simp only [sm_B_and]
  rintro ⟨p0, p1, p2, p3, p4, p5⟩
  have hb0 := t132_not p0
  have hb1 := t133_of p1
  have hn0 := t131_nth p2 J46
  try simp only [smA, smW] at *
  have n2 := @fn0_nn ρ J78
  obtain ⟨a3, ea3, qa3⟩ := cs_u64 (E.I ρ J77)
  try simp only [ea3] at *
  obtain ⟨a4, ea4, qa4⟩ := cs_rem (E.I ρ (.fn 1 (.pr J14 J46))) a3
  try simp only [ea4] at *
  obtain ⟨a5, ea5, qa5⟩ := cs_i64 a4
  try simp only [ea5] at *
  omega
def f60 : E := (.imp J11 (.not (.cmp .lss J77 (.fn 6 (.pr J95 (.fn 7 (.pr J77 J95)))))))
theorem fact60 (ρ : Env) : E.B ρ f60 = true := by
  unfold f60
  rw [sm_B_imp]
  intro p0
  have hb0 := t132_not p0
  try simp only [smA, smW] at *
  obtain ⟨a2, ea2, qa2⟩ := cs_u64 (E.I ρ J77)
  try simp only [ea2] at *
  obtain ⟨a3, ea3, qa3⟩ := cs_rem (E.I ρ (.fn 1 (.pr J14 J46))) a2
  try simp only [ea3] at *
  obtain ⟨a4, ea4, qa4⟩ := cs_i64 a3
  try simp only [ea4] at *
  obtain ⟨a5, ea5, qa5⟩ := cs_i64 (a4 + (1))
  try simp only [ea5] at *
  omega
def f61 : E := (.imp (.and J11 (.and J12 (.and J88 (.and J96 J94)))) J97)
theorem fact61 (ρ : Env) : E.B ρ f61 = true := by
  unfold f61
  rw [sm_B_imp]
  simp only [sm_B_and]
  rintro ⟨p0, p1, p2, p3, p4, p5, p6, p7⟩
  have hb0 := t132_not p0
  have hb1 := t133_of p1
  have hn0 := t131_nth p2 J46
  try simp only [smA, smW] at *
  have n4 := @fn0_nn ρ J78
  obtain ⟨a4, ea4, qa4⟩ := cs_u64 (E.I ρ J77)
  try simp only [ea4] at *
  obtain ⟨a5, ea5, qa5⟩ := cs_rem (E.I ρ (.fn 1 (.pr J14 J46))) a4
  try simp only [ea5] at *
  obtain ⟨a6, ea6, qa6⟩ := cs_i64 a5
  try simp only [ea6] at *
  obtain ⟨a7, ea7, qa7⟩ := cs_i64 (a6 + (1))
  try simp only [ea7] at *
  omega
def f62 : E := (.imp (.and J11 (.and J12 (.and J88 (.and J98 J94)))) J97)
theorem fact62 (ρ : Env) : E.B ρ f62 = true := by
  unfold f62
  rw [sm_B_imp]
  simp only [sm_B_and]
  rintro ⟨p0, p1, p2, p3, p4, p5, p6, p7⟩
  have hb0 := t132_not p0
  have hb1 := t133_of p1
  have hn0 := t131_nth p2 J46
  try simp only [smA, smW] at *
  have n4 := @fn0_nn ρ J78
  obtain ⟨a4, ea4, qa4⟩ := cs_u64 (E.I ρ J77)
  try simp only [ea4] at *
  obtain ⟨a5, ea5, qa5⟩ := cs_rem (E.I ρ (.fn 1 (.pr J14 J46))) a4
  try simp only [ea5] at *
  obtain ⟨a6, ea6, qa6⟩ := cs_i64 a5
  try simp only [ea6] at *
  obtain ⟨a7, ea7, qa7⟩ := cs_i64 (a6 + (1))
  try simp only [ea7] at *
  omega
def f63 : E := (.imp J101 (.cmp .lss (.int 0) J90))
theorem fact63 (ρ : Env) : E.B ρ f63 = true := by
  unfold f63
  rw [sm_B_imp]
  simp only [sm_B_and]
  rintro ⟨p0, p1, p2, p3, p4, p5, p6, p7, p8⟩
  have hb0 := t132_not p0
  have hb1 := t133_of p1
  have hn0 := t131_nth p2 J46
  try simp only [smA, smW] at *
  have n4 := @fn0_nn ρ J78
  obtain ⟨a4, ea4, qa4⟩ := cs_u64 (E.I ρ J77)
  try simp only [ea4] at *
  obtain ⟨a5, ea5, qa5⟩ := cs_rem (E.I ρ (.fn 1 (.pr J14 J46))) a4
  try simp only [ea5] at *
  obtain ⟨a6, ea6, qa6⟩ := cs_i64 a5
  try simp only [ea6] at *
  obtain ⟨a7, ea7, qa7⟩ := cs_i64 (a6 + (1))
  try simp only [ea7] at *
  omega
def f64 : E := (.imp (.and J11 (.and J12 (.and J88 (.and J98 (.and J99 J80))))) J103)
theorem fact64 (ρ : Env) : E.B ρ f64 = true := by
  unfold f64
  rw [sm_B_imp]
  simp only [sm_B_and]
  rintro ⟨p0, p1, p2, p3, p4, p5, p6, p7⟩
  have hb0 := t132_not p0
  have hb1 := t133_of p1
  have hn0 := t131_nth p2 J46
  try simp only [smA, smW] at *
  have n4 := @fn0_nn ρ J78
  obtain ⟨a4, ea4, qa4⟩ := cs_u64 (E.I ρ J77)
  try simp only [ea4] at *
  obtain ⟨a5, ea5, qa5⟩ := cs_rem (E.I ρ (.fn 1 (.pr J14 J46))) a4
  try simp only [ea5] at *
  obtain ⟨a6, ea6, qa6⟩ := cs_i64 a5
  try simp only [ea6] at *
  obtain ⟨a7, ea7, qa7⟩ := cs_i64 (a6 + (1))
  try simp only [ea7] at *
  omega
def f65 : E := (.imp J104 (.cmp .lss (.int 0) J90))
theorem fact65 (ρ : Env) : E.B ρ f65 = true := by
  unfold f65
  rw [sm_B_imp]
  simp only [sm_B_and]
  rintro ⟨p0, p1, p2, p3, p4, p5, p6, p7, p8⟩
  have hb0 := t132_not p0
  have hb1 := t133_of p1
  have hn0 := t131_nth p2 J46
  try simp only [smA, smW] at *
  have n4 := @fn0_nn ρ J78
  obtain ⟨a4, ea4, qa4⟩ := cs_u64 (E.I ρ J77)
  try simp only [ea4] at *
  obtain ⟨a5, ea5, qa5⟩ := cs_rem (E.I ρ (.fn 1 (.pr J14 J46))) a4
  try simp only [ea5] at *
  obtain ⟨a6, ea6, qa6⟩ := cs_i64 a5
  try simp only [ea6] at *
  obtain ⟨a7, ea7, qa7⟩ := cs_i64 (a6 + (1))
  try simp only [ea7] at *
  omega
def f66 : E := (.imp (.and J11 (.and J12 (.and J88 (.and J98 (.and J100 J80))))) J103)
theorem fact66 (ρ : Env) : E.B ρ f66 = true := by
  unfold f66
  rw [sm_B_imp]
  simp only [sm_B_and]
  rintro ⟨p0, p1, p2, p3, p4, p5, p6, p7⟩
  have hb0 := t132_not p0
  have hb1 := t133_of p1
  have hn0 := t131_nth p2 J46
  try simp only [smA, smW] at *
  have n4 := @fn0_nn ρ J78
  obtain ⟨a4, ea4, qa4⟩ := cs_u64 (E.I ρ J77)
  try simp only [ea4] at *
  obtain ⟨a5, ea5, qa5⟩ := cs_rem (E.I ρ (.fn 1 (.pr J14 J46))) a4
  try simp only [ea5] at *
  obtain ⟨a6, ea6, qa6⟩ := cs_i64 a5
  try simp only [ea6] at *
  obtain ⟨a7, ea7, qa7⟩ := cs_i64 (a6 + (1))
  try simp only [ea7] at *
  omega
def f67 : E := (.imp J105 (.cmp .eql J106 (.int 1)))
theorem fact67 (ρ : Env) : E.B ρ f67 = true := by
  unfold f67
  rw [sm_B_imp]
  simp only [sm_B_and]
  rintro ⟨p0, p1, p2⟩
  have hb0 := t132_not p0
  have hb1 := t133_of p1
  try simp only [smA, smW] at *
  obtain ⟨a1, ea1, qa1⟩ := cs_i64 ((E.I ρ J42) + (1))
  try simp only [ea1] at *
  omega
def f68 : E := (.imp (.and J11 (.and J12 (.and J88 (.and J98 (.and J99 J94))))) (.not (.cmp .lss (.int 2147483648) (.fn 7 (.pr J77 J95)))))
theorem fact68 (ρ : Env) : E.B ρ f68 = true := by
  unfold f68
  rw [sm_B_imp]
  simp only [sm_B_and]
  rintro ⟨p0, p1, p2, p3, p4, p5, p6, p7, p8⟩
  have hb0 := t132_not p0
  have hb1 := t133_of p1
  have hn0 := t131_nth p2 J46
  try simp only [smA, smW] at *
  have n4 := @fn0_nn ρ J78
  obtain ⟨a4, ea4, qa4⟩ := cs_u64 (E.I ρ J77)
  try simp only [ea4] at *
  obtain ⟨a5, ea5, qa5⟩ := cs_rem (E.I ρ (.fn 1 (.pr J14 J46))) a4
  try simp only [ea5] at *
  obtain ⟨a6, ea6, qa6⟩ := cs_i64 a5
  try simp only [ea6] at *
  obtain ⟨a7, ea7, qa7⟩ := cs_i64 (a6 + (1))
  try simp only [ea7] at *
  omega
def f69 : E := (.imp J105 (.not (.cmp .lss J106 (.int 0))))
theorem fact69 (ρ : Env) : E.B ρ f69 = true := by
  unfold f69
  rw [sm_B_imp]
  simp only [sm_B_and]
  rintro ⟨p0, p1, p2⟩
  have hb0 := t132_not p0
  have hb1 := t133_of p1
  try simp only [smA, smW] at *
  obtain ⟨a1, ea1, qa1⟩ := cs_i64 ((E.I ρ J42) + (1))
  try simp only [ea1] at *
  omega
def f70 : E := (.imp J112 (.cmp .lss (.int 0) (.fn 7 (.pr J77 J95))))
theorem fact70 (ρ : Env) : E.B ρ f70 = true := by
  unfold f70
  rw [sm_B_imp]
  simp only [sm_B_and]
  rintro ⟨p0, p1, p2, p3, p4, p5, p6, p7, p8⟩
  have hb0 := t132_not p0
  have hb1 := t133_of p1
  have hn0 := t131_nth p2 J46
  try simp only [smA, smW] at *
  have n4 := @fn0_nn ρ J78
  obtain ⟨a4, ea4, qa4⟩ := cs_u64 (E.I ρ J77)
  try simp only [ea4] at *
  obtain ⟨a5, ea5, qa5⟩ := cs_rem (E.I ρ (.fn 1 (.pr J14 J46))) a4
  try simp only [ea5] at *
  obtain ⟨a6, ea6, qa6⟩ := cs_i64 a5
  try simp only [ea6] at *
  obtain ⟨a7, ea7, qa7⟩ := cs_i64 (a6 + (1))
  try simp only [ea7] at *
  omega
def f71 : E := (.imp J104 (.not (.cmp .lss (.int 2147483648) (.fn 6 (.pr J90 (.fn 7 (.pr J77 J95)))))))
theorem fact71 (ρ : Env) : E.B ρ f71 = true := by
  unfold f71
  rw [sm_B_imp]
  simp only [sm_B_and]
  rintro ⟨p0, p1, p2, p3, p4, p5, p6, p7, p8⟩
  have hb0 := t132_not p0
  have hb1 := t133_of p1
  have hn0 := t131_nth p2 J46
  try simp only [smA, smW] at *
  have n4 := @fn0_nn ρ J78
  obtain ⟨a4, ea4, qa4⟩ := cs_u64 (E.I ρ J77)
  try simp only [ea4] at *
  obtain ⟨a5, ea5, qa5⟩ := cs_rem (E.I ρ (.fn 1 (.pr J14 J46))) a4
  try simp only [ea5] at *
  obtain ⟨a6, ea6, qa6⟩ := cs_i64 a5
  try simp only [ea6] at *
  obtain ⟨a7, ea7, qa7⟩ := cs_i64 (a6 + (1))
  try simp only [ea7] at *
  omega
def f72 : E := (.imp J119 (.not (.cmp .lss J1 J106)))
theorem fact72 (ρ : Env) : E.B ρ f72 = true := by
  unfold f72
  rw [sm_B_imp]
  simp only [sm_B_and]
  rintro ⟨p0, p1, p2, p3, p4, p5, p6, p7, p8, p9⟩
  have hb0 := t132_not p0
  have hb1 := t133_of p1
  try simp only [smA, smW] at *
  have n5 := @fn0_nn ρ J14
  obtain ⟨a6, ea6, qa6⟩ := cs_i64 ((E.I ρ J42) + (1))
  try simp only [ea6] at *
  omega
def f73 : E := (.imp (.and J11 (.and J12 J59)) (.cmp .eql (.fn 6 (.pr J54 (.int 1))) (.fn 6 (.pr (.fn 0 J58) (.int 1)))))
theorem fact73 (ρ : Env) : E.B ρ f73 = true := by
  unfold f73
  rw [sm_B_imp]
  simp only [sm_B_and]
  rintro ⟨p0, p1, p2⟩
  have hb0 := t132_not p0
  have hb1 := t133_of p1
  try simp only [smA, smW] at *
  have n2 := @fn0_nn ρ J58
  omega
def f74 : E := (.imp J123 (.cmp .eql (.fn 7 (.pr J77 J95)) (.fn 0 (.fn 4 (.pr J78 (.pr J95 (.fn 6 (.pr J95 (.fn 7 (.pr J77 J95))))))))))
theorem fact74 (ρ : Env) : E.B ρ f74 = true := by
  unfold f74
  rw [sm_B_imp]
  simp only [sm_B_and]
  rintro ⟨p0, p1, p2, p3, p4, p5, p6, p7, p8, p9⟩
  have hb0 := t132_not p0
  have hb1 := t133_of p1
  have hn0 := t131_nth p2 J46
  have hs1 := I_sublen (ρ := ρ) (l := J78) (a := J95) (b := (.fn 6 (.pr J95 (.fn 7 (.pr J77 J95)))))
  try simp only [smA, smW] at *
  have n4 := @fn0_nn ρ J78
  have n5 := @fn0_nn ρ (.fn 4 (.pr J78 (.pr J95 (.fn 6 (.pr J95 (.fn 7 (.pr J77 J95)))))))
  obtain ⟨a5, ea5, qa5⟩ := cs_u64 (E.I ρ J77)
  try simp only [ea5] at *
  obtain ⟨a6, ea6, qa6⟩ := cs_rem (E.I ρ (.fn 1 (.pr J14 J46))) a5
  try simp only [ea6] at *
  obtain ⟨a7, ea7, qa7⟩ := cs_i64 a6
  try simp only [ea7] at *
  obtain ⟨a8, ea8, qa8⟩ := cs_i64 (a7 + (1))
  try simp only [ea8] at *
  omega
def f75 : E := (.imp J104 (.cmp .eql (.fn 6 (.pr J90 (.fn 7 (.pr J77 J95)))) (.fn 6 (.pr (.fn 0 (.fn 4 (.pr J78 (.pr (.int 0) J90)))) (.fn 0 (.fn 4 (.pr J78 (.pr J95 (.fn 6 (.pr J95 (.fn 7 (.pr J77 J95))))))))))))
theorem fact75 (ρ : Env) : E.B ρ f75 = true := by
  unfold f75
  rw [sm_B_imp]
  simp only [sm_B_and]
  rintro ⟨p0, p1, p2, p3, p4, p5, p6, p7, p8⟩
  have hb0 := t132_not p0
  have hb1 := t133_of p1
  have hn0 := t131_nth p2 J46
  have hs1 := I_sublen (ρ := ρ) (l := J78) (a := (.int 0)) (b := J90)
  have hs2 := I_sublen (ρ := ρ) (l := J78) (a := J95) (b := (.fn 6 (.pr J95 (.fn 7 (.pr J77 J95)))))
  try simp only [smA, smW] at *
  have n4 := @fn0_nn ρ J78
  have n5 := @fn0_nn ρ (.fn 4 (.pr J78 (.pr (.int 0) J90)))
  have n6 := @fn0_nn ρ (.fn 4 (.pr J78 (.pr J95 (.fn 6 (.pr J95 (.fn 7 (.pr J77 J95)))))))
  obtain ⟨a6, ea6, qa6⟩ := cs_u64 (E.I ρ J77)
  try simp only [ea6] at *
  obtain ⟨a7, ea7, qa7⟩ := cs_rem (E.I ρ (.fn 1 (.pr J14 J46))) a6
  try simp only [ea7] at *
  obtain ⟨a8, ea8, qa8⟩ := cs_i64 a7
  try simp only [ea8] at *
  obtain ⟨a9, ea9, qa9⟩ := cs_i64 (a8 + (1))
  try simp only [ea9] at *
  omega
def f76 : E := (.imp (.and J11 (.and J12 (.and J7 J115))) J124)
theorem fact76 (ρ : Env) : E.B ρ f76 = true := by
  unfold f76
  rw [sm_B_imp]
  simp only [sm_B_and]
  rintro ⟨p0, p1, p2, p3, p4, p5, p6, p7, p8⟩
  have hb0 := t132_not p0
  have hb1 := t133_of p1
  try simp only [smA, smW] at *
  have n3 := @fn0_nn ρ J14
  obtain ⟨a5, ea5, qa5⟩ := cs_i64 ((E.I ρ J46) + (1))
  try simp only [ea5] at *
  obtain ⟨a6, ea6, qa6⟩ := cs_i64 ((E.I ρ J42) + (1))
  try simp only [ea6] at *
  omega
def f77 : E := (.imp J125 (.cmp .eql (.fn 6 (.pr J54 (.int 1))) J106))
theorem fact77 (ρ : Env) : E.B ρ f77 = true := by
  unfold f77
  rw [sm_B_imp]
  simp only [sm_B_and]
  rintro ⟨p0, p1, p2, p3, p4, p5, p6, p7, p8, p9, p10, p11⟩
  have hb0 := t132_not p0
  have hb1 := t133_of p1
  try simp only [smA, smW] at *
  have n5 := @fn0_nn ρ J14
  have n8 := @fn0_nn ρ J58
  obtain ⟨a8, ea8, qa8⟩ := cs_i64 ((E.I ρ J42) + (1))
  try simp only [ea8] at *
  omega
def f78 : E := (.imp J112 (.not (.cmp .lss (.fn 7 (.pr J77 J95)) (.int 1))))
theorem fact78 (ρ : Env) : E.B ρ f78 = true := by
  unfold f78
  rw [sm_B_imp]
  simp only [sm_B_and]
  rintro ⟨p0, p1, p2, p3, p4, p5, p6, p7, p8⟩
  have hb0 := t132_not p0
  have hb1 := t133_of p1
  have hn0 := t131_nth p2 J46
  try simp only [smA, smW] at *
  have n4 := @fn0_nn ρ J78
  obtain ⟨a4, ea4, qa4⟩ := cs_u64 (E.I ρ J77)
  try simp only [ea4] at *
  obtain ⟨a5, ea5, qa5⟩ := cs_rem (E.I ρ (.fn 1 (.pr J14 J46))) a4
  try simp only [ea5] at *
  obtain ⟨a6, ea6, qa6⟩ := cs_i64 a5
  try simp only [ea6] at *
  obtain ⟨a7, ea7, qa7⟩ := cs_i64 (a6 + (1))
  try simp only [ea7] at *
  omega
def f79 : E := (.imp J104 (.not (.cmp .lss (.fn 6 (.pr J90 (.fn 7 (.pr J77 J95)))) (.int 1))))
theorem fact79 (ρ : Env) : E.B ρ f79 = true := by
  unfold f79
  rw [sm_B_imp]
  simp only [sm_B_and]
  rintro ⟨p0, p1, p2, p3, p4, p5, p6, p7, p8⟩
  have hb0 := t132_not p0
  have hb1 := t133_of p1
  have hn0 := t131_nth p2 J46
  try simp only [smA, smW] at *
  have n4 := @fn0_nn ρ J78
  obtain ⟨a4, ea4, qa4⟩ := cs_u64 (E.I ρ J77)
  try simp only [ea4] at *
  obtain ⟨a5, ea5, qa5⟩ := cs_rem (E.I ρ (.fn 1 (.pr J14 J46))) a4
  try simp only [ea5] at *
  obtain ⟨a6, ea6, qa6⟩ := cs_i64 a5
  try simp only [ea6] at *
  obtain ⟨a7, ea7, qa7⟩ := cs_i64 (a6 + (1))
  try simp only [ea7] at *
  omega
def f80 : E := (.imp (.and J11 (.and J12 (.and J88 (.and J98 (.and J99 (.and J107 J127)))))) J128)
theorem fact80 (ρ : Env) : E.B ρ f80 = true := by
  unfold f80
  rw [sm_B_imp]
  simp only [sm_B_and]
  rintro ⟨p0, p1, p2, p3, p4, p5, p6, p7, p8, p9, p10, p11⟩
  have hb0 := t132_not p0
  have hb1 := t133_of p1
  have hn0 := t131_nth p2 J46
  try simp only [smA, smW] at *
  have n6 := @fn0_nn ρ J78
  obtain ⟨a6, ea6, qa6⟩ := cs_u64 (E.I ρ J77)
  try simp only [ea6] at *
  obtain ⟨a7, ea7, qa7⟩ := cs_rem (E.I ρ (.fn 1 (.pr J14 J46))) a6
  try simp only [ea7] at *
  obtain ⟨a8, ea8, qa8⟩ := cs_i64 a7
  try simp only [ea8] at *
  obtain ⟨a9, ea9, qa9⟩ := cs_i64 (a8 + (1))
  try simp only [ea9] at *
  obtain ⟨a10, ea10, qa10⟩ := cs_i64 ((E.I ρ J42) + (1))
  try simp only [ea10] at *
  omega
def f81 : E := (.imp (.and J11 (.and J12 (.and J88 (.and J96 (.and J99 J127))))) J128)
theorem fact81 (ρ : Env) : E.B ρ f81 = true := by
  unfold f81
  rw [sm_B_imp]
  simp only [sm_B_and]
  rintro ⟨p0, p1, p2, p3, p4, p5, p6, p7, p8, p9, p10⟩
  have hb0 := t132_not p0
  have hb1 := t133_of p1
  have hn0 := t131_nth p2 J46
  try simp only [smA, smW] at *
  have n6 := @fn0_nn ρ J78
  obtain ⟨a6, ea6, qa6⟩ := cs_u64 (E.I ρ J77)
  try simp only [ea6] at *
  obtain ⟨a7, ea7, qa7⟩ := cs_rem (E.I ρ (.fn 1 (.pr J14 J46))) a6
  try simp only [ea7] at *
  obtain ⟨a8, ea8, qa8⟩ := cs_i64 a7
  try simp only [ea8] at *
  obtain ⟨a9, ea9, qa9⟩ := cs_i64 (a8 + (1))
  try simp only [ea9] at *
  obtain ⟨a10, ea10, qa10⟩ := cs_i64 ((E.I ρ J42) + (1))
  try simp only [ea10] at *
  omega
def f82 : E := (.imp J125 (.not (.cmp .lss J106 (.int 0))))
theorem fact82 (ρ : Env) : E.B ρ f82 = true := by
  unfold f82
  rw [sm_B_imp]
  simp only [sm_B_and]
  rintro ⟨p0, p1, p2, p3, p4, p5, p6, p7, p8, p9, p10, p11⟩
  have hb0 := t132_not p0
  have hb1 := t133_of p1
  try simp only [smA, smW] at *
  have n5 := @fn0_nn ρ J14
  have n8 := @fn0_nn ρ J58
  obtain ⟨a8, ea8, qa8⟩ := cs_i64 ((E.I ρ J42) + (1))
  try simp only [ea8] at *
  omega
def f83 : E := (.imp J123 (.not (.cmp .lss (.int 300) (.fn 7 (.pr J77 J95)))))
theorem fact83 (ρ : Env) : E.B ρ f83 = true := by
  unfold f83
  rw [sm_B_imp]
  simp only [sm_B_and]
  rintro ⟨p0, p1, p2, p3, p4, p5, p6, p7, p8, p9⟩
  have hb0 := t132_not p0
  have hb1 := t133_of p1
  have hn0 := t131_nth p2 J46
  try simp only [smA, smW] at *
  have n4 := @fn0_nn ρ J78
  obtain ⟨a4, ea4, qa4⟩ := cs_u64 (E.I ρ J77)
  try simp only [ea4] at *
  obtain ⟨a5, ea5, qa5⟩ := cs_rem (E.I ρ (.fn 1 (.pr J14 J46))) a4
  try simp only [ea5] at *
  obtain ⟨a6, ea6, qa6⟩ := cs_i64 a5
  try simp only [ea6] at *
  obtain ⟨a7, ea7, qa7⟩ := cs_i64 (a6 + (1))
  try simp only [ea7] at *
  omega
def f84 : E := (.imp J104 (.not (.cmp .lss (.int 300) (.fn 6 (.pr J90 (.fn 7 (.pr J77 J95)))))))
theorem fact84 (ρ : Env) : E.B ρ f84 = true := by
  unfold f84
  rw [sm_B_imp]
  simp only [sm_B_and]
  rintro ⟨p0, p1, p2, p3, p4, p5, p6, p7, p8⟩
  have hb0 := t132_not p0
  have hb1 := t133_of p1
  have hn0 := t131_nth p2 J46
  try simp only [smA, smW] at *
  have n4 := @fn0_nn ρ J78
  obtain ⟨a4, ea4, qa4⟩ := cs_u64 (E.I ρ J77)
  try simp only [ea4] at *
  obtain ⟨a5, ea5, qa5⟩ := cs_rem (E.I ρ (.fn 1 (.pr J14 J46))) a4
  try simp only [ea5] at *
  obtain ⟨a6, ea6, qa6⟩ := cs_i64 a5
  try simp only [ea6] at *
  obtain ⟨a7, ea7, qa7⟩ := cs_i64 (a6 + (1))
  try simp only [ea7] at *
  omega
def f85 : E := (.imp (.and J129 (.and J43 (.and J98 (.and J99 (.and J107 J130))))) J134)
theorem fact85 (ρ : Env) : E.B ρ f85 = true := by
  unfold f85
  rw [sm_B_imp]
  simp only [sm_B_and]
  rintro ⟨p0, p1, p2, p3, p4, p5, p6, p7, p8, p9, p10, p11, p12, p13, p14, p15, p16, p17, p18⟩
  obtain ⟨g0, g1, g2, g3, g4, g5, g6, k0, k1, k2, g7, g8, g9, e1, e2⟩ : (0) ≤ E.I ρ J42 ∧ E.I ρ J42 < E.I ρ J1 ∧ (0) ≤ E.I ρ J6 ∧ E.I ρ J46 = E.I ρ (.fn 6 (.pr J6 J42)) ∧ E.I ρ J46 < E.I ρ (.fn 0 J14) ∧ (1) ≤ E.I ρ (.fn 0 J78) ∧ E.I ρ J77 = E.I ρ (.fn 0 J78) ∧ (0) ≤ E.I ρ (.fn 1 (.pr J14 J46)) ∧ (0) < E.I ρ (.fn 0 J78) ∧ E.I ρ (.fn 0 J78) < (9223372036854775808) ∧ (0) ≤ E.I ρ J90 ∧ E.I ρ J90 < E.I ρ (.fn 0 J78) ∧ E.I ρ J106 = E.I ρ (.fn 6 (.pr J42 (.int 1))) ∧ E.I ρ J90 = (0) ∧ E.I ρ (.fn 0 J78) = (1) := by
    have hb6 := t132_not p6
    have hb7 := t133_of p7
    have hn0 := t131_nth p11 J46
    try simp only [smA, smW] at *
    have n8 := @fn0_nn ρ J14
    have n11 := @fn0_nn ρ J78
    obtain ⟨a11, ea11, qa11⟩ := cs_u64 (E.I ρ J77)
    try simp only [ea11] at *
    obtain ⟨a12, ea12, qa12⟩ := cs_rem (E.I ρ (.fn 1 (.pr J14 J46))) a11
    try simp only [ea12] at *
    obtain ⟨a13, ea13, qa13⟩ := cs_i64 a12
    try simp only [ea13] at *
    obtain ⟨a14, ea14, qa14⟩ := cs_i64 (a13 + (1))
    try simp only [ea14] at *
    obtain ⟨a15, ea15, qa15⟩ := cs_i64 ((E.I ρ J42) + (1))
    try simp only [ea15] at *
    omega
  exact t121_step (p := J46) (j := J90) p0 (by (try simp only [sm_I_int]); omega) g1 (by (try simp only [sm_I_int]); omega) g3 g4 (by (try simp only [sm_I_int]); omega) (choose_val (b := (.fn 0 J78)) (by (try simp only [sm_I_int]); omega) (by (try simp only [sm_I_int]); omega) (by (try simp only [sm_I_int]); omega) g6) (by (try simp only [sm_I_int]); omega) g8 g9 (by simp only [ints_app, ints_cons, ints_nil, I_nth, List.nil_append]) (erase_none (j := J90) e1 e2)
def f86 : E := (.imp (.and J129 (.and J43 (.and J96 (.and J99 J130)))) J134)
theorem fact86 (ρ : Env) : E.B ρ f86 = true := by
  unfold f86
  rw [sm_B_imp]
  simp only [sm_B_and]
  rintro ⟨p0, p1, p2, p3, p4, p5, p6, p7, p8, p9, p10, p11, p12, p13, p14, p15, p16, p17⟩
  obtain ⟨g0, g1, g2, g3, g4, g5, g6, k0, k1, k2, g7, g8, g9, e1, e2⟩ : (0) ≤ E.I ρ J42 ∧ E.I ρ J42 < E.I ρ J1 ∧ (0) ≤ E.I ρ J6 ∧ E.I ρ J46 = E.I ρ (.fn 6 (.pr J6 J42)) ∧ E.I ρ J46 < E.I ρ (.fn 0 J14) ∧ (1) ≤ E.I ρ (.fn 0 J78) ∧ E.I ρ J77 = E.I ρ (.fn 0 J78) ∧ (0) ≤ E.I ρ (.fn 1 (.pr J14 J46)) ∧ (0) < E.I ρ (.fn 0 J78) ∧ E.I ρ (.fn 0 J78) < (9223372036854775808) ∧ (0) ≤ E.I ρ J90 ∧ E.I ρ J90 < E.I ρ (.fn 0 J78) ∧ E.I ρ J106 = E.I ρ (.fn 6 (.pr J42 (.int 1))) ∧ E.I ρ J90 = (0) ∧ E.I ρ (.fn 0 J78) = (1) := by
    have hb5 := t132_not p5
    have hb6 := t133_of p6
    have hn0 := t131_nth p10 J46
    try simp only [smA, smW] at *
    have n8 := @fn0_nn ρ J14
    have n11 := @fn0_nn ρ J78
    obtain ⟨a11, ea11, qa11⟩ := cs_u64 (E.I ρ J77)
    try simp only [ea11] at *
    obtain ⟨a12, ea12, qa12⟩ := cs_rem (E.I ρ (.fn 1 (.pr J14 J46))) a11
    try simp only [ea12] at *
    obtain ⟨a13, ea13, qa13⟩ := cs_i64 a12
    try simp only [ea13] at *
    obtain ⟨a14, ea14, qa14⟩ := cs_i64 (a13 + (1))
    try simp only [ea14] at *
    obtain ⟨a15, ea15, qa15⟩ := cs_i64 ((E.I ρ J42) + (1))
    try simp only [ea15] at *
    omega
  exact t121_step (p := J46) (j := J90) p0 (by (try simp only [sm_I_int]); omega) g1 (by (try simp only [sm_I_int]); omega) g3 g4 (by (try simp only [sm_I_int]); omega) (choose_val (b := (.fn 0 J78)) (by (try simp only [sm_I_int]); omega) (by (try simp only [sm_I_int]); omega) (by (try simp only [sm_I_int]); omega) g6) (by (try simp only [sm_I_int]); omega) g8 g9 (by simp only [ints_app, ints_cons, ints_nil, I_nth, List.nil_append]) (erase_none (j := J90) e1 e2)
def f87 : E := (.imp J125 (.not (.cmp .lss J1 J106)))
theorem fact87 (ρ : Env) : E.B ρ f87 = true := by
  unfold f87
  rw [sm_B_imp]
  simp only [sm_B_and]
  rintro ⟨p0, p1, p2, p3, p4, p5, p6, p7, p8, p9, p10, p11⟩
  have hb0 := t132_not p0
  have hb1 := t133_of p1
  try simp only [smA, smW] at *
  have n5 := @fn0_nn ρ J14
  have n8 := @fn0_nn ρ J58
  obtain ⟨a8, ea8, qa8⟩ := cs_i64 ((E.I ρ J42) + (1))
  try simp only [ea8] at *
  omega
def f88 : E := (.imp J105 J135)
theorem fact88 (ρ : Env) : E.B ρ f88 = true := by
  unfold f88
  rw [sm_B_imp]
  simp only [sm_B_and]
  rintro ⟨p0, p1, p2⟩
  have hb0 := t132_not p0
  have hb1 := t133_of p1
  try simp only [smA, smW] at *
  obtain ⟨a2, ea2, qa2⟩ := cs_i64 ((E.I ρ J42) + (1))
  try simp only [ea2] at *
  omega
def f89 : E := (.imp (.and J11 (.and J12 (.and J43 (.and J16 J67)))) J124)
theorem fact89 (ρ : Env) : E.B ρ f89 = true := by
  unfold f89
  rw [sm_B_imp]
  simp only [sm_B_and]
  rintro ⟨p0, p1, p2, p3, p4, p5, p6, p7, p8, p9, p10, p11, p12⟩
  have hb0 := t132_not p0
  have hb1 := t133_of p1
  try simp only [smA, smW] at *
  have n5 := @fn0_nn ρ J14
  have n8 := @fn0_nn ρ J58
  obtain ⟨a8, ea8, qa8⟩ := cs_i64 ((E.I ρ J46) + (1))
  try simp only [ea8] at *
  obtain ⟨a9, ea9, qa9⟩ := cs_i64 ((E.I ρ J42) + (1))
  try simp only [ea9] at *
  omega
def f90 : E := (.imp J119 J137)
theorem fact90 (ρ : Env) : E.B ρ f90 = true := by
  unfold f90
  rw [sm_B_imp]
  simp only [sm_B_and]
  rintro ⟨p0, p1, p2, p3, p4, p5, p6, p7, p8, p9⟩
  have hb0 := t132_not p0
  have hb1 := t133_of p1
  try simp only [smA, smW] at *
  have n5 := @fn0_nn ρ J14
  obtain ⟨a6, ea6, qa6⟩ := cs_i64 ((E.I ρ J42) + (1))
  try simp only [ea6] at *
  omega
def f91 : E := (.imp (.and J11 (.and J12 (.and J88 (.and J98 (.and J99 (.and J108 J127)))))) J138)
theorem fact91 (ρ : Env) : E.B ρ f91 = true := by
  unfold f91
  rw [sm_B_imp]
  simp only [sm_B_and]
  rintro ⟨p0, p1, p2, p3, p4, p5, p6, p7, p8, p9, p10, p11⟩
  have hb0 := t132_not p0
  have hb1 := t133_of p1
  have hn0 := t131_nth p2 J46
  try simp only [smA, smW] at *
  have n6 := @fn0_nn ρ J78
  obtain ⟨a6, ea6, qa6⟩ := cs_u64 (E.I ρ J77)
  try simp only [ea6] at *
  obtain ⟨a7, ea7, qa7⟩ := cs_rem (E.I ρ (.fn 1 (.pr J14 J46))) a6
  try simp only [ea7] at *
  obtain ⟨a8, ea8, qa8⟩ := cs_i64 a7
  try simp only [ea8] at *
  obtain ⟨a9, ea9, qa9⟩ := cs_i64 (a8 + (1))
  try simp only [ea9] at *
  obtain ⟨a10, ea10, qa10⟩ := cs_i64 ((E.I ρ J42) + (1))
  try simp only [ea10] at *
  omega
def f92 : E := (.imp (.and J11 (.and J12 (.and J88 (.and J98 (.and J100 (.and J50 (.and J126 J80))))))) J139)
theorem fact92 (ρ : Env) : E.B ρ f92 = true := by
  unfold f92
  rw [sm_B_imp]
  simp only [sm_B_and]
  rintro ⟨p0, p1, p2, p3, p4, p5, p6, p7, p8, p9⟩
  have hb0 := t132_not p0
  have hb1 := t133_of p1
  have hn0 := t131_nth p2 J46
  try simp only [smA, smW] at *
  have n6 := @fn0_nn ρ J78
  obtain ⟨a6, ea6, qa6⟩ := cs_u64 (E.I ρ J77)
  try simp only [ea6] at *
  obtain ⟨a7, ea7, qa7⟩ := cs_rem (E.I ρ (.fn 1 (.pr J14 J46))) a6
  try simp only [ea7] at *
  obtain ⟨a8, ea8, qa8⟩ := cs_i64 a7
  try simp only [ea8] at *
  obtain ⟨a9, ea9, qa9⟩ := cs_i64 (a8 + (1))
  try simp only [ea9] at *
  obtain ⟨a10, ea10, qa10⟩ := cs_i64 ((E.I ρ J42) + (1))
  try simp only [ea10] at *
  omega
def f93 : E := (.imp (.and J11 (.and J12 (.and J88 (.and J96 (.and J100 J127))))) J140)
theorem fact93 (ρ : Env) : E.B ρ f93 = true := by
  unfold f93
  rw [sm_B_imp]
  simp only [sm_B_and]
  rintro ⟨p0, p1, p2, p3, p4, p5, p6, p7, p8, p9, p10⟩
  have hb0 := t132_not p0
  have hb1 := t133_of p1
  have hn0 := t131_nth p2 J46
  try simp only [smA, smW] at *
  have n6 := @fn0_nn ρ J78
  obtain ⟨a6, ea6, qa6⟩ := cs_u64 (E.I ρ J77)
  try simp only [ea6] at *
  obtain ⟨a7, ea7, qa7⟩ := cs_rem (E.I ρ (.fn 1 (.pr J14 J46))) a6
  try simp only [ea7] at *
  obtain ⟨a8, ea8, qa8⟩ := cs_i64 a7
  try simp only [ea8] at *
  obtain ⟨a9, ea9, qa9⟩ := cs_i64 (a8 + (1))
  try simp only [ea9] at *
  obtain ⟨a10, ea10, qa10⟩ := cs_i64 ((E.I ρ J42) + (1))
  try simp only [ea10] at *
  omega
def f94 : E := (.imp (.and J11 (.and J12 (.and J88 (.and J43 (.and J98 (.and J99 (.and J107 J151))))))) J128)
theorem fact94 (ρ : Env) : E.B ρ f94 = true := by
  unfold f94
  rw [sm_B_imp]
  simp only [sm_B_and]
  rintro ⟨p0, p1, p2, p3, p4, p5, p6, p7, p8, p9, p10, p11, p12, p13, p14, p15, p16, p17, p18⟩
  have hb0 := t132_not p0
  have hb1 := t133_of p1
  have hn0 := t131_nth p2 J46
  try simp only [smA, smW] at *
  have n8 := @fn0_nn ρ J14
  have n12 := @fn0_nn ρ J58
  have n13 := @fn0_nn ρ J78
  obtain ⟨a13, ea13, qa13⟩ := cs_u64 (E.I ρ J77)
  try simp only [ea13] at *
  obtain ⟨a14, ea14, qa14⟩ := cs_rem (E.I ρ (.fn 1 (.pr J14 J46))) a13
  try simp only [ea14] at *
  obtain ⟨a15, ea15, qa15⟩ := cs_i64 a14
  try simp only [ea15] at *
  obtain ⟨a16, ea16, qa16⟩ := cs_i64 (a15 + (1))
  try simp only [ea16] at *
  obtain ⟨a17, ea17, qa17⟩ := cs_i64 ((E.I ρ J42) + (1))
  try simp only [ea17] at *
  omega
def f95 : E := (.imp (.and J11 (.and J12 (.and J88 (.and J43 (.and J96 (.and J99 J151)))))) J128)
theorem fact95 (ρ : Env) : E.B ρ f95 = true := by
  unfold f95
  rw [sm_B_imp]
  simp only [sm_B_and]
  rintro ⟨p0, p1, p2, p3, p4, p5, p6, p7, p8, p9, p10, p11, p12, p13, p14, p15, p16, p17⟩
  have hb0 := t132_not p0
  have hb1 := t133_of p1
  have hn0 := t131_nth p2 J46
  try simp only [smA, smW] at *
  have n8 := @fn0_nn ρ J14
  have n12 := @fn0_nn ρ J58
  have n13 := @fn0_nn ρ J78
  obtain ⟨a13, ea13, qa13⟩ := cs_u64 (E.I ρ J77)
  try simp only [ea13] at *
  obtain ⟨a14, ea14, qa14⟩ := cs_rem (E.I ρ (.fn 1 (.pr J14 J46))) a13
  try simp only [ea14] at *
  obtain ⟨a15, ea15, qa15⟩ := cs_i64 a14
  try simp only [ea15] at *
  obtain ⟨a16, ea16, qa16⟩ := cs_i64 (a15 + (1))
  try simp only [ea16] at *
  obtain ⟨a17, ea17, qa17⟩ := cs_i64 ((E.I ρ J42) + (1))
  try simp only [ea17] at *
  omega
def f96 : E := (.imp (.and J129 (.and J43 (.and J98 (.and J99 (.and J108 J130))))) (.fn 121 (.pr (.fn 23 (.pr (.fn 1 (.pr J78 J90)) (.fn 10 (.int 0)))) J152)))
theorem fact96 (ρ : Env) : E.B ρ f96 = true := by
  unfold f96
  rw [sm_B_imp]
  simp only [sm_B_and]
  rintro ⟨p0, p1, p2, p3, p4, p5, p6, p7, p8, p9, p10, p11, p12, p13, p14, p15, p16, p17, p18⟩
  obtain ⟨g0, g1, g2, g3, g4, g5, g6, k0, k1, k2, g7, g8, g9, e0, e1, e2⟩ : (0) ≤ E.I ρ J42 ∧ E.I ρ J42 < E.I ρ J1 ∧ (0) ≤ E.I ρ J6 ∧ E.I ρ J46 = E.I ρ (.fn 6 (.pr J6 J42)) ∧ E.I ρ J46 < E.I ρ (.fn 0 J14) ∧ (1) ≤ E.I ρ (.fn 0 J78) ∧ E.I ρ J77 = E.I ρ (.fn 0 J78) ∧ (0) ≤ E.I ρ (.fn 1 (.pr J14 J46)) ∧ (0) < E.I ρ (.fn 0 J78) ∧ E.I ρ (.fn 0 J78) < (9223372036854775808) ∧ (0) ≤ E.I ρ J90 ∧ E.I ρ J90 < E.I ρ (.fn 0 J78) ∧ E.I ρ J106 = E.I ρ (.fn 6 (.pr J42 (.int 1))) ∧ E.I ρ J90 = (0) ∧ E.I ρ J95 = E.I ρ (.fn 6 (.pr J90 (.int 1))) ∧ E.I ρ (.fn 6 (.pr J95 (.fn 7 (.pr J77 J95)))) = E.I ρ (.fn 0 J78) := by
    have hb6 := t132_not p6
    have hb7 := t133_of p7
    have hn0 := t131_nth p11 J46
    try simp only [smA, smW] at *
    have n8 := @fn0_nn ρ J14
    have n11 := @fn0_nn ρ J78
    obtain ⟨a11, ea11, qa11⟩ := cs_u64 (E.I ρ J77)
    try simp only [ea11] at *
    obtain ⟨a12, ea12, qa12⟩ := cs_rem (E.I ρ (.fn 1 (.pr J14 J46))) a11
    try simp only [ea12] at *
    obtain ⟨a13, ea13, qa13⟩ := cs_i64 a12
    try simp only [ea13] at *
    obtain ⟨a14, ea14, qa14⟩ := cs_i64 (a13 + (1))
    try simp only [ea14] at *
    obtain ⟨a15, ea15, qa15⟩ := cs_i64 ((E.I ρ J42) + (1))
    try simp only [ea15] at *
    omega
  exact t121_step (p := J46) (j := J90) p0 (by (try simp only [sm_I_int]); omega) g1 (by (try simp only [sm_I_int]); omega) g3 g4 (by (try simp only [sm_I_int]); omega) (choose_val (b := (.fn 0 J78)) (by (try simp only [sm_I_int]); omega) (by (try simp only [sm_I_int]); omega) (by (try simp only [sm_I_int]); omega) g6) (by (try simp only [sm_I_int]); omega) g8 g9 (by simp only [ints_app, ints_cons, ints_nil, I_nth, List.nil_append]) (erase_tail (j := J90) e0 e1 e2)
def f97 : E := (.imp (.and J129 (.and J43 (.and J98 (.and J100 J130)))) (.fn 121 (.pr (.fn 23 (.pr (.fn 1 (.pr J78 J90)) (.fn 10 (.int 0)))) J153)))
theorem fact97 (ρ : Env) : E.B ρ f97 = true := by
  unfold f97
  rw [sm_B_imp]
  simp only [sm_B_and]
  rintro ⟨p0, p1, p2, p3, p4, p5, p6, p7, p8, p9, p10, p11, p12, p13, p14, p15, p16, p17⟩
  obtain ⟨g0, g1, g2, g3, g4, g5, g6, k0, k1, k2, g7, g8, g9, e1, e2⟩ : (0) ≤ E.I ρ J42 ∧ E.I ρ J42 < E.I ρ J1 ∧ (0) ≤ E.I ρ J6 ∧ E.I ρ J46 = E.I ρ (.fn 6 (.pr J6 J42)) ∧ E.I ρ J46 < E.I ρ (.fn 0 J14) ∧ (1) ≤ E.I ρ (.fn 0 J78) ∧ E.I ρ J77 = E.I ρ (.fn 0 J78) ∧ (0) ≤ E.I ρ (.fn 1 (.pr J14 J46)) ∧ (0) < E.I ρ (.fn 0 J78) ∧ E.I ρ (.fn 0 J78) < (9223372036854775808) ∧ (0) ≤ E.I ρ J90 ∧ E.I ρ J90 < E.I ρ (.fn 0 J78) ∧ E.I ρ J106 = E.I ρ (.fn 6 (.pr J42 (.int 1))) ∧ E.I ρ J95 = E.I ρ (.fn 6 (.pr J90 (.int 1))) ∧ E.I ρ (.fn 6 (.pr J95 (.fn 7 (.pr J77 J95)))) = E.I ρ (.fn 0 J78) := by
    have hb5 := t132_not p5
    have hb6 := t133_of p6
    have hn0 := t131_nth p10 J46
    try simp only [smA, smW] at *
    have n8 := @fn0_nn ρ J14
    have n11 := @fn0_nn ρ J78
    obtain ⟨a11, ea11, qa11⟩ := cs_u64 (E.I ρ J77)
    try simp only [ea11] at *
    obtain ⟨a12, ea12, qa12⟩ := cs_rem (E.I ρ (.fn 1 (.pr J14 J46))) a11
    try simp only [ea12] at *
    obtain ⟨a13, ea13, qa13⟩ := cs_i64 a12
    try simp only [ea13] at *
    obtain ⟨a14, ea14, qa14⟩ := cs_i64 (a13 + (1))
    try simp only [ea14] at *
    obtain ⟨a15, ea15, qa15⟩ := cs_i64 ((E.I ρ J42) + (1))
    try simp only [ea15] at *
    omega
  exact t121_step (p := J46) (j := J90) p0 (by (try simp only [sm_I_int]); omega) g1 (by (try simp only [sm_I_int]); omega) g3 g4 (by (try simp only [sm_I_int]); omega) (choose_val (b := (.fn 0 J78)) (by (try simp only [sm_I_int]); omega) (by (try simp only [sm_I_int]); omega) (by (try simp only [sm_I_int]); omega) g6) (by (try simp only [sm_I_int]); omega) g8 g9 (by simp only [ints_app, ints_cons, ints_nil, I_nth, List.nil_append]) (erase_both (j := J90) (by (try simp only [sm_I_int]); omega) (by exact Int.le_refl 0) rfl e1 e2)
def f98 : E := (.imp (.and J129 (.and J43 (.and J96 (.and J100 J130)))) (.fn 121 (.pr (.fn 23 (.pr (.fn 1 (.pr J78 J90)) (.fn 10 (.int 0)))) J154)))
theorem fact98 (ρ : Env) : E.B ρ f98 = true := by
  unfold f98
  rw [sm_B_imp]
  simp only [sm_B_and]
  rintro ⟨p0, p1, p2, p3, p4, p5, p6, p7, p8, p9, p10, p11, p12, p13, p14, p15, p16, p17⟩
  obtain ⟨g0, g1, g2, g3, g4, g5, g6, k0, k1, k2, g7, g8, g9, e1⟩ : (0) ≤ E.I ρ J42 ∧ E.I ρ J42 < E.I ρ J1 ∧ (0) ≤ E.I ρ J6 ∧ E.I ρ J46 = E.I ρ (.fn 6 (.pr J6 J42)) ∧ E.I ρ J46 < E.I ρ (.fn 0 J14) ∧ (1) ≤ E.I ρ (.fn 0 J78) ∧ E.I ρ J77 = E.I ρ (.fn 0 J78) ∧ (0) ≤ E.I ρ (.fn 1 (.pr J14 J46)) ∧ (0) < E.I ρ (.fn 0 J78) ∧ E.I ρ (.fn 0 J78) < (9223372036854775808) ∧ (0) ≤ E.I ρ J90 ∧ E.I ρ J90 < E.I ρ (.fn 0 J78) ∧ E.I ρ J106 = E.I ρ (.fn 6 (.pr J42 (.int 1))) ∧ E.I ρ (.fn 0 J78) = E.I ρ (.fn 6 (.pr J90 (.int 1))) := by
    have hb5 := t132_not p5
    have hb6 := t133_of p6
    have hn0 := t131_nth p10 J46
    try simp only [smA, smW] at *
    have n8 := @fn0_nn ρ J14
    have n11 := @fn0_nn ρ J78
    obtain ⟨a11, ea11, qa11⟩ := cs_u64 (E.I ρ J77)
    try simp only [ea11] at *
    obtain ⟨a12, ea12, qa12⟩ := cs_rem (E.I ρ (.fn 1 (.pr J14 J46))) a11
    try simp only [ea12] at *
    obtain ⟨a13, ea13, qa13⟩ := cs_i64 a12
    try simp only [ea13] at *
    obtain ⟨a14, ea14, qa14⟩ := cs_i64 (a13 + (1))
    try simp only [ea14] at *
    obtain ⟨a15, ea15, qa15⟩ := cs_i64 ((E.I ρ J42) + (1))
    try simp only [ea15] at *
    omega
  exact t121_step (p := J46) (j := J90) p0 (by (try simp only [sm_I_int]); omega) g1 (by (try simp only [sm_I_int]); omega) g3 g4 (by (try simp only [sm_I_int]); omega) (choose_val (b := (.fn 0 J78)) (by (try simp only [sm_I_int]); omega) (by (try simp only [sm_I_int]); omega) (by (try simp only [sm_I_int]); omega) g6) (by (try simp only [sm_I_int]); omega) g8 g9 (by simp only [ints_app, ints_cons, ints_nil, I_nth, List.nil_append]) (erase_head (j := J90) (by (try simp only [sm_I_int]); omega) (by exact Int.le_refl 0) rfl e1)
def f99 : E := (.imp (.and J43 (.and J98 (.and J99 (.and J107 J167)))) J169)
theorem fact99 (ρ : Env) : E.B ρ f99 = true := by
  unfold f99
  rw [sm_B_imp]
  simp only [sm_B_and]
  rintro ⟨p0, p1, p2, p3, p4, p5, p6, p7, p8, p9, p10, p11, p12, p13, p14, p15, p16, p17, p18, p19, p20⟩
  obtain ⟨g0, g1, g2, g3, g4, g5, g6, k0, k1, k2, g7, g8, g9, e1, e2⟩ : (0) ≤ E.I ρ J42 ∧ E.I ρ J42 < E.I ρ J1 ∧ (0) ≤ E.I ρ J6 ∧ E.I ρ J46 = E.I ρ (.fn 6 (.pr J6 J42)) ∧ E.I ρ J46 < E.I ρ (.fn 0 J14) ∧ (1) ≤ E.I ρ (.fn 0 J78) ∧ E.I ρ J77 = E.I ρ (.fn 0 J78) ∧ (0) ≤ E.I ρ (.fn 1 (.pr J14 J46)) ∧ (0) < E.I ρ (.fn 0 J78) ∧ E.I ρ (.fn 0 J78) < (9223372036854775808) ∧ (0) ≤ E.I ρ J90 ∧ E.I ρ J90 < E.I ρ (.fn 0 J78) ∧ E.I ρ J106 = E.I ρ (.fn 6 (.pr J42 (.int 1))) ∧ E.I ρ J90 = (0) ∧ E.I ρ (.fn 0 J78) = (1) := by
    have hb5 := t132_not p5
    have hb6 := t133_of p6
    have hn0 := t131_nth p11 J46
    try simp only [smA, smW] at *
    have n8 := @fn0_nn ρ J14
    have n11 := @fn0_nn ρ J58
    have n12 := @fn0_nn ρ J78
    obtain ⟨a12, ea12, qa12⟩ := cs_u64 (E.I ρ J77)
    try simp only [ea12] at *
    obtain ⟨a13, ea13, qa13⟩ := cs_rem (E.I ρ (.fn 1 (.pr J14 J46))) a12
    try simp only [ea13] at *
    obtain ⟨a14, ea14, qa14⟩ := cs_i64 a13
    try simp only [ea14] at *
    obtain ⟨a15, ea15, qa15⟩ := cs_i64 (a14 + (1))
    try simp only [ea15] at *
    obtain ⟨a16, ea16, qa16⟩ := cs_i64 ((E.I ρ J42) + (1))
    try simp only [ea16] at *
    omega
  exact t121_step (p := J46) (j := J90) p13 (by (try simp only [sm_I_int]); omega) g1 (by (try simp only [sm_I_int]); omega) g3 g4 (by (try simp only [sm_I_int]); omega) (choose_val (b := (.fn 0 J78)) (by (try simp only [sm_I_int]); omega) (by (try simp only [sm_I_int]); omega) (by (try simp only [sm_I_int]); omega) g6) (by (try simp only [sm_I_int]); omega) g8 g9 (by simp only [ints_app, ints_cons, ints_nil, I_nth, List.nil_append]) (erase_none (j := J90) e1 e2)
def f100 : E := (.imp (.and J43 (.and J96 (.and J99 J167))) J169)
theorem fact100 (ρ : Env) : E.B ρ f100 = true := by
  unfold f100
  rw [sm_B_imp]
  simp only [sm_B_and]
  rintro ⟨p0, p1, p2, p3, p4, p5, p6, p7, p8, p9, p10, p11, p12, p13, p14, p15, p16, p17, p18, p19⟩
  obtain ⟨g0, g1, g2, g3, g4, g5, g6, k0, k1, k2, g7, g8, g9, e1, e2⟩ : (0) ≤ E.I ρ J42 ∧ E.I ρ J42 < E.I ρ J1 ∧ (0) ≤ E.I ρ J6 ∧ E.I ρ J46 = E.I ρ (.fn 6 (.pr J6 J42)) ∧ E.I ρ J46 < E.I ρ (.fn 0 J14) ∧ (1) ≤ E.I ρ (.fn 0 J78) ∧ E.I ρ J77 = E.I ρ (.fn 0 J78) ∧ (0) ≤ E.I ρ (.fn 1 (.pr J14 J46)) ∧ (0) < E.I ρ (.fn 0 J78) ∧ E.I ρ (.fn 0 J78) < (9223372036854775808) ∧ (0) ≤ E.I ρ J90 ∧ E.I ρ J90 < E.I ρ (.fn 0 J78) ∧ E.I ρ J106 = E.I ρ (.fn 6 (.pr J42 (.int 1))) ∧ E.I ρ J90 = (0) ∧ E.I ρ (.fn 0 J78) = (1) := by
    have hb4 := t132_not p4
    have hb5 := t133_of p5
    have hn0 := t131_nth p10 J46
    try simp only [smA, smW] at *
    have n8 := @fn0_nn ρ J14
    have n11 := @fn0_nn ρ J58
    have n12 := @fn0_nn ρ J78
    obtain ⟨a12, ea12, qa12⟩ := cs_u64 (E.I ρ J77)
    try simp only [ea12] at *
    obtain ⟨a13, ea13, qa13⟩ := cs_rem (E.I ρ (.fn 1 (.pr J14 J46))) a12
    try simp only [ea13] at *
    obtain ⟨a14, ea14, qa14⟩ := cs_i64 a13
    try simp only [ea14] at *
    obtain ⟨a15, ea15, qa15⟩ := cs_i64 (a14 + (1))
    try simp only [ea15] at *
    obtain ⟨a16, ea16, qa16⟩ := cs_i64 ((E.I ρ J42) + (1))
    try simp only [ea16] at *
    omega
  exact t121_step (p := J46) (j := J90) p12 (by (try simp only [sm_I_int]); omega) g1 (by (try simp only [sm_I_int]); omega) g3 g4 (by (try simp only [sm_I_int]); omega) (choose_val (b := (.fn 0 J78)) (by (try simp only [sm_I_int]); omega) (by (try simp only [sm_I_int]); omega) (by (try simp only [sm_I_int]); omega) g6) (by (try simp only [sm_I_int]); omega) g8 g9 (by simp only [ints_app, ints_cons, ints_nil, I_nth, List.nil_append]) (erase_none (j := J90) e1 e2)
def f101 : E := (.imp J101 (.cmp .eql J90 (.fn 0 (.fn 4 (.pr J78 (.pr (.int 0) J90))))))
theorem fact101 (ρ : Env) : E.B ρ f101 = true := by
  unfold f101
  rw [sm_B_imp]
  simp only [sm_B_and]
  rintro ⟨p0, p1, p2, p3, p4, p5, p6, p7, p8⟩
  have hb0 := t132_not p0
  have hb1 := t133_of p1
  have hn0 := t131_nth p2 J46
  have hs1 := I_sublen (ρ := ρ) (l := J78) (a := (.int 0)) (b := J90)
  try simp only [smA, smW] at *
  have n4 := @fn0_nn ρ J78
  have n5 := @fn0_nn ρ (.fn 4 (.pr J78 (.pr (.int 0) J90)))
  obtain ⟨a5, ea5, qa5⟩ := cs_u64 (E.I ρ J77)
  try simp only [ea5] at *
  obtain ⟨a6, ea6, qa6⟩ := cs_rem (E.I ρ (.fn 1 (.pr J14 J46))) a5
  try simp only [ea6] at *
  obtain ⟨a7, ea7, qa7⟩ := cs_i64 a6
  try simp only [ea7] at *
  obtain ⟨a8, ea8, qa8⟩ := cs_i64 (a7 + (1))
  try simp only [ea8] at *
  omega
def f102 : E := (.imp J125 J135)
theorem fact102 (ρ : Env) : E.B ρ f102 = true := by
  unfold f102
  rw [sm_B_imp]
  simp only [sm_B_and]
  rintro ⟨p0, p1, p2, p3, p4, p5, p6, p7, p8, p9, p10, p11⟩
  have hb0 := t132_not p0
  have hb1 := t133_of p1
  try simp only [smA, smW] at *
  have n5 := @fn0_nn ρ J14
  have n8 := @fn0_nn ρ J58
  obtain ⟨a8, ea8, qa8⟩ := cs_i64 ((E.I ρ J42) + (1))
  try simp only [ea8] at *
  omega
def f103 : E := (.imp J101 (.not (.cmp .lss J90 (.int 1))))
theorem fact103 (ρ : Env) : E.B ρ f103 = true := by
  unfold f103
  rw [sm_B_imp]
  simp only [sm_B_and]
  rintro ⟨p0, p1, p2, p3, p4, p5, p6, p7, p8⟩
  have hb0 := t132_not p0
  have hb1 := t133_of p1
  have hn0 := t131_nth p2 J46
  try simp only [smA, smW] at *
  have n4 := @fn0_nn ρ J78
  obtain ⟨a4, ea4, qa4⟩ := cs_u64 (E.I ρ J77)
  try simp only [ea4] at *
  obtain ⟨a5, ea5, qa5⟩ := cs_rem (E.I ρ (.fn 1 (.pr J14 J46))) a4
  try simp only [ea5] at *
  obtain ⟨a6, ea6, qa6⟩ := cs_i64 a5
  try simp only [ea6] at *
  obtain ⟨a7, ea7, qa7⟩ := cs_i64 (a6 + (1))
  try simp only [ea7] at *
  omega
def f104 : E := (.imp J125 J137)
theorem fact104 (ρ : Env) : E.B ρ f104 = true := by
  unfold f104
  rw [sm_B_imp]
  simp only [sm_B_and]
  rintro ⟨p0, p1, p2, p3, p4, p5, p6, p7, p8, p9, p10, p11⟩
  have hb0 := t132_not p0
  have hb1 := t133_of p1
  try simp only [smA, smW] at *
  have n5 := @fn0_nn ρ J14
  have n8 := @fn0_nn ρ J58
  obtain ⟨a8, ea8, qa8⟩ := cs_i64 ((E.I ρ J42) + (1))
  try simp only [ea8] at *
  omega
def f105 : E := (.imp (.and J11 (.and J12 (.and J88 (.and J43 (.and J98 (.and J99 (.and J108 J151))))))) J138)
theorem fact105 (ρ : Env) : E.B ρ f105 = true := by
  unfold f105
  rw [sm_B_imp]
  simp only [sm_B_and]
  rintro ⟨p0, p1, p2, p3, p4, p5, p6, p7, p8, p9, p10, p11, p12, p13, p14, p15, p16, p17, p18⟩
  have hb0 := t132_not p0
  have hb1 := t133_of p1
  have hn0 := t131_nth p2 J46
  try simp only [smA, smW] at *
  have n8 := @fn0_nn ρ J14
  have n12 := @fn0_nn ρ J58
  have n13 := @fn0_nn ρ J78
  obtain ⟨a13, ea13, qa13⟩ := cs_u64 (E.I ρ J77)
  try simp only [ea13] at *
  obtain ⟨a14, ea14, qa14⟩ := cs_rem (E.I ρ (.fn 1 (.pr J14 J46))) a13
  try simp only [ea14] at *
  obtain ⟨a15, ea15, qa15⟩ := cs_i64 a14
  try simp only [ea15] at *
  obtain ⟨a16, ea16, qa16⟩ := cs_i64 (a15 + (1))
  try simp only [ea16] at *
  obtain ⟨a17, ea17, qa17⟩ := cs_i64 ((E.I ρ J42) + (1))
  try simp only [ea17] at *
  omega
def f106 : E := (.imp (.and J11 (.and J12 (.and J88 (.and J43 (.and J98 (.and J100 (.and J16 (.and J8 (.and J5 (.and J13 (.and J15 (.and J49 (.and J126 (.and J56 (.and J57 (.and J59 J80)))))))))))))))) J139)
theorem fact106 (ρ : Env) : E.B ρ f106 = true := by
  unfold f106
  rw [sm_B_imp]
  simp only [sm_B_and]
  rintro ⟨p0, p1, p2, p3, p4, p5, p6, p7, p8, p9, p10, p11, p12, p13, p14, p15, p16, p17, p18⟩
  have hb0 := t132_not p0
  have hb1 := t133_of p1
  have hn0 := t131_nth p2 J46
  try simp only [smA, smW] at *
  have n8 := @fn0_nn ρ J14
  have n12 := @fn0_nn ρ J58
  have n13 := @fn0_nn ρ J78
  obtain ⟨a13, ea13, qa13⟩ := cs_u64 (E.I ρ J77)
  try simp only [ea13] at *
  obtain ⟨a14, ea14, qa14⟩ := cs_rem (E.I ρ (.fn 1 (.pr J14 J46))) a13
  try simp only [ea14] at *
  obtain ⟨a15, ea15, qa15⟩ := cs_i64 a14
  try simp only [ea15] at *
  obtain ⟨a16, ea16, qa16⟩ := cs_i64 (a15 + (1))
  try simp only [ea16] at *
  obtain ⟨a17, ea17, qa17⟩ := cs_i64 ((E.I ρ J42) + (1))
  try simp only [ea17] at *
  omega
def f107 : E := (.imp J101 (.not (.cmp .lss (.int 300) J90)))
theorem fact107 (ρ : Env) : E.B ρ f107 = true := by
  unfold f107
  rw [sm_B_imp]
  simp only [sm_B_and]
  rintro ⟨p0, p1, p2, p3, p4, p5, p6, p7, p8⟩
  have hb0 := t132_not p0
  have hb1 := t133_of p1
  have hn0 := t131_nth p2 J46
  try simp only [smA, smW] at *
  have n4 := @fn0_nn ρ J78
  obtain ⟨a4, ea4, qa4⟩ := cs_u64 (E.I ρ J77)
  try simp only [ea4] at *
  obtain ⟨a5, ea5, qa5⟩ := cs_rem (E.I ρ (.fn 1 (.pr J14 J46))) a4
  try simp only [ea5] at *
  obtain ⟨a6, ea6, qa6⟩ := cs_i64 a5
  try simp only [ea6] at *
  obtain ⟨a7, ea7, qa7⟩ := cs_i64 (a6 + (1))
  try simp only [ea7] at *
  omega
def f108 : E := (.imp (.and J43 (.and J98 (.and J99 (.and J108 J167)))) (.fn 121 (.pr (.fn 3 (.pr J58 (.fn 23 (.pr (.fn 1 (.pr J78 J90)) (.fn 10 (.int 0)))))) J152)))
theorem fact108 (ρ : Env) : E.B ρ f108 = true := by
  unfold f108
  rw [sm_B_imp]
  simp only [sm_B_and]
  rintro ⟨p0, p1, p2, p3, p4, p5, p6, p7, p8, p9, p10, p11, p12, p13, p14, p15, p16, p17, p18, p19, p20⟩
  obtain ⟨g0, g1, g2, g3, g4, g5, g6, k0, k1, k2, g7, g8, g9, e0, e1, e2⟩ : (0) ≤ E.I ρ J42 ∧ E.I ρ J42 < E.I ρ J1 ∧ (0) ≤ E.I ρ J6 ∧ E.I ρ J46 = E.I ρ (.fn 6 (.pr J6 J42)) ∧ E.I ρ J46 < E.I ρ (.fn 0 J14) ∧ (1) ≤ E.I ρ (.fn 0 J78) ∧ E.I ρ J77 = E.I ρ (.fn 0 J78) ∧ (0) ≤ E.I ρ (.fn 1 (.pr J14 J46)) ∧ (0) < E.I ρ (.fn 0 J78) ∧ E.I ρ (.fn 0 J78) < (9223372036854775808) ∧ (0) ≤ E.I ρ J90 ∧ E.I ρ J90 < E.I ρ (.fn 0 J78) ∧ E.I ρ J106 = E.I ρ (.fn 6 (.pr J42 (.int 1))) ∧ E.I ρ J90 = (0) ∧ E.I ρ J95 = E.I ρ (.fn 6 (.pr J90 (.int 1))) ∧ E.I ρ (.fn 6 (.pr J95 (.fn 7 (.pr J77 J95)))) = E.I ρ (.fn 0 J78) := by
    have hb5 := t132_not p5
    have hb6 := t133_of p6
    have hn0 := t131_nth p11 J46
    try simp only [smA, smW] at *
    have n8 := @fn0_nn ρ J14
    have n11 := @fn0_nn ρ J58
    have n12 := @fn0_nn ρ J78
    obtain ⟨a12, ea12, qa12⟩ := cs_u64 (E.I ρ J77)
    try simp only [ea12] at *
    obtain ⟨a13, ea13, qa13⟩ := cs_rem (E.I ρ (.fn 1 (.pr J14 J46))) a12
    try simp only [ea13] at *
    obtain ⟨a14, ea14, qa14⟩ := cs_i64 a13
    try simp only [ea14] at *
    obtain ⟨a15, ea15, qa15⟩ := cs_i64 (a14 + (1))
    try simp only [ea15] at *
    obtain ⟨a16, ea16, qa16⟩ := cs_i64 ((E.I ρ J42) + (1))
    try simp only [ea16] at *
    omega
  exact t121_step (p := J46) (j := J90) p13 (by (try simp only [sm_I_int]); omega) g1 (by (try simp only [sm_I_int]); omega) g3 g4 (by (try simp only [sm_I_int]); omega) (choose_val (b := (.fn 0 J78)) (by (try simp only [sm_I_int]); omega) (by (try simp only [sm_I_int]); omega) (by (try simp only [sm_I_int]); omega) g6) (by (try simp only [sm_I_int]); omega) g8 g9 (by simp only [ints_app, ints_cons, ints_nil, I_nth, List.nil_append]) (erase_tail (j := J90) e0 e1 e2)
def f109 : E := (.imp (.and J43 (.and J98 J181)) (.fn 121 (.pr (.fn 3 (.pr J58 (.fn 23 (.pr (.fn 1 (.pr J78 J90)) (.fn 10 (.int 0)))))) J153)))
theorem fact109 (ρ : Env) : E.B ρ f109 = true := by
  unfold f109
  rw [sm_B_imp]
  simp only [sm_B_and]
  rintro ⟨p0, p1, p2, p3, p4, p5, p6, p7, p8, p9, p10, p11, p12, p13, p14, p15, p16, p17, p18, p19, p20⟩
  obtain ⟨g0, g1, g2, g3, g4, g5, g6, k0, k1, k2, g7, g8, g9, e1, e2⟩ : (0) ≤ E.I ρ J42 ∧ E.I ρ J42 < E.I ρ J1 ∧ (0) ≤ E.I ρ J6 ∧ E.I ρ J46 = E.I ρ (.fn 6 (.pr J6 J42)) ∧ E.I ρ J46 < E.I ρ (.fn 0 J14) ∧ (1) ≤ E.I ρ (.fn 0 J78) ∧ E.I ρ J77 = E.I ρ (.fn 0 J78) ∧ (0) ≤ E.I ρ (.fn 1 (.pr J14 J46)) ∧ (0) < E.I ρ (.fn 0 J78) ∧ E.I ρ (.fn 0 J78) < (9223372036854775808) ∧ (0) ≤ E.I ρ J90 ∧ E.I ρ J90 < E.I ρ (.fn 0 J78) ∧ E.I ρ J106 = E.I ρ (.fn 6 (.pr J42 (.int 1))) ∧ E.I ρ J95 = E.I ρ (.fn 6 (.pr J90 (.int 1))) ∧ E.I ρ (.fn 6 (.pr J95 (.fn 7 (.pr J77 J95)))) = E.I ρ (.fn 0 J78) := by
    have hb4 := t132_not p4
    have hb5 := t133_of p5
    have hn0 := t131_nth p10 J46
    try simp only [smA, smW] at *
    have n8 := @fn0_nn ρ J14
    have n12 := @fn0_nn ρ J58
    have n13 := @fn0_nn ρ J78
    obtain ⟨a13, ea13, qa13⟩ := cs_u64 (E.I ρ J77)
    try simp only [ea13] at *
    obtain ⟨a14, ea14, qa14⟩ := cs_rem (E.I ρ (.fn 1 (.pr J14 J46))) a13
    try simp only [ea14] at *
    obtain ⟨a15, ea15, qa15⟩ := cs_i64 a14
    try simp only [ea15] at *
    obtain ⟨a16, ea16, qa16⟩ := cs_i64 (a15 + (1))
    try simp only [ea16] at *
    obtain ⟨a17, ea17, qa17⟩ := cs_i64 ((E.I ρ J42) + (1))
    try simp only [ea17] at *
    omega
  exact t121_step (p := J46) (j := J90) p12 (by (try simp only [sm_I_int]); omega) g1 (by (try simp only [sm_I_int]); omega) g3 g4 (by (try simp only [sm_I_int]); omega) (choose_val (b := (.fn 0 J78)) (by (try simp only [sm_I_int]); omega) (by (try simp only [sm_I_int]); omega) (by (try simp only [sm_I_int]); omega) g6) (by (try simp only [sm_I_int]); omega) g8 g9 (by simp only [ints_app, ints_cons, ints_nil, I_nth, List.nil_append]) (erase_both (j := J90) (by (try simp only [sm_I_int]); omega) (by exact Int.le_refl 0) rfl e1 e2)
def f110 : E := (.imp (.and J11 (.and J12 (.and J88 (.and J43 (.and J96 (.and J100 (.and J16 (.and J8 (.and J5 (.and J13 (.and J15 (.and J49 J170)))))))))))) J140)
theorem fact110 (ρ : Env) : E.B ρ f110 = true := by
  unfold f110
  rw [sm_B_imp]
  simp only [sm_B_and]
  rintro ⟨p0, p1, p2, p3, p4, p5, p6, p7, p8, p9, p10, p11, p12, p13, p14, p15, p16, p17, p18, p19⟩
  have hb0 := t132_not p0
  have hb1 := t133_of p1
  have hn0 := t131_nth p2 J46
  try simp only [smA, smW] at *
  have n8 := @fn0_nn ρ J14
  have n12 := @fn0_nn ρ J58
  have n13 := @fn0_nn ρ J78
  obtain ⟨a13, ea13, qa13⟩ := cs_u64 (E.I ρ J77)
  try simp only [ea13] at *
  obtain ⟨a14, ea14, qa14⟩ := cs_rem (E.I ρ (.fn 1 (.pr J14 J46))) a13
  try simp only [ea14] at *
  obtain ⟨a15, ea15, qa15⟩ := cs_i64 a14
  try simp only [ea15] at *
  obtain ⟨a16, ea16, qa16⟩ := cs_i64 (a15 + (1))
  try simp only [ea16] at *
  obtain ⟨a17, ea17, qa17⟩ := cs_i64 ((E.I ρ J42) + (1))
  try simp only [ea17] at *
  omega
def f111 : E := (.imp (.and J43 (.and J96 J181)) (.fn 121 (.pr (.fn 3 (.pr J58 (.fn 23 (.pr (.fn 1 (.pr J78 J90)) (.fn 10 (.int 0)))))) J154)))
theorem fact111 (ρ : Env) : E.B ρ f111 = true := by
  unfold f111
  rw [sm_B_imp]
  simp only [sm_B_and]
  rintro ⟨p0, p1, p2, p3, p4, p5, p6, p7, p8, p9, p10, p11, p12, p13, p14, p15, p16, p17, p18, p19, p20⟩
  obtain ⟨g0, g1, g2, g3, g4, g5, g6, k0, k1, k2, g7, g8, g9, e1⟩ : (0) ≤ E.I ρ J42 ∧ E.I ρ J42 < E.I ρ J1 ∧ (0) ≤ E.I ρ J6 ∧ E.I ρ J46 = E.I ρ (.fn 6 (.pr J6 J42)) ∧ E.I ρ J46 < E.I ρ (.fn 0 J14) ∧ (1) ≤ E.I ρ (.fn 0 J78) ∧ E.I ρ J77 = E.I ρ (.fn 0 J78) ∧ (0) ≤ E.I ρ (.fn 1 (.pr J14 J46)) ∧ (0) < E.I ρ (.fn 0 J78) ∧ E.I ρ (.fn 0 J78) < (9223372036854775808) ∧ (0) ≤ E.I ρ J90 ∧ E.I ρ J90 < E.I ρ (.fn 0 J78) ∧ E.I ρ J106 = E.I ρ (.fn 6 (.pr J42 (.int 1))) ∧ E.I ρ (.fn 0 J78) = E.I ρ (.fn 6 (.pr J90 (.int 1))) := by
    have hb4 := t132_not p4
    have hb5 := t133_of p5
    have hn0 := t131_nth p10 J46
    try simp only [smA, smW] at *
    have n8 := @fn0_nn ρ J14
    have n12 := @fn0_nn ρ J58
    have n13 := @fn0_nn ρ J78
    obtain ⟨a13, ea13, qa13⟩ := cs_u64 (E.I ρ J77)
    try simp only [ea13] at *
    obtain ⟨a14, ea14, qa14⟩ := cs_rem (E.I ρ (.fn 1 (.pr J14 J46))) a13
    try simp only [ea14] at *
    obtain ⟨a15, ea15, qa15⟩ := cs_i64 a14
    try simp only [ea15] at *
    obtain ⟨a16, ea16, qa16⟩ := cs_i64 (a15 + (1))
    try simp only [ea16] at *
    obtain ⟨a17, ea17, qa17⟩ := cs_i64 ((E.I ρ J42) + (1))
    try simp only [ea17] at *
    omega
  exact t121_step (p := J46) (j := J90) p12 (by (try simp only [sm_I_int]); omega) g1 (by (try simp only [sm_I_int]); omega) g3 g4 (by (try simp only [sm_I_int]); omega) (choose_val (b := (.fn 0 J78)) (by (try simp only [sm_I_int]); omega) (by (try simp only [sm_I_int]); omega) (by (try simp only [sm_I_int]); omega) g6) (by (try simp only [sm_I_int]); omega) g8 g9 (by simp only [ints_app, ints_cons, ints_nil, I_nth, List.nil_append]) (erase_head (j := J90) (by (try simp only [sm_I_int]); omega) (by exact Int.le_refl 0) rfl e1)
def facts : List E := [f0, f1, f2, f3, f4, f5, f6, f7, f8, f9, f10, f11, f12, f13, f14, f15, f16, f17, f18, f19, f20, f21, f22, f23, f24, f25, f26, f27, f28, f29, f30, f31, f32, f33, f34, f35, f36, f37, f38, f39, f40, f41, f42, f43, f44, f45, f46, f47, f48, f49, f50, f51, f52, f53, f54, f55, f56, f57, f58, f59, f60, f61, f62, f63, f64, f65, f66, f67, f68, f69, f70, f71, f72, f73, f74, f75, f76, f77, f78, f79, f80, f81, f82, f83, f84, f85, f86, f87, f88, f89, f90, f91, f92, f93, f94, f95, f96, f97, f98, f99, f100, f101, f102, f103, f104, f105, f106, f107, f108, f109, f110, f111]
theorem facts_ok : ∀ e ∈ facts, ∀ ρ : Env, E.B ρ e = true := (all_cons fact0 (all_cons fact1 (all_cons fact2 (all_cons fact3 (all_cons fact4 (all_cons fact5 (all_cons fact6 (all_cons fact7 (all_cons fact8 (all_cons fact9 (all_cons fact10 (all_cons fact11 (all_cons fact12 (all_cons fact13 (all_cons fact14 (all_cons fact15 (all_cons fact16 (all_cons fact17 (all_cons fact18 (all_cons fact19 (all_cons fact20 (all_cons fact21 (all_cons fact22 (all_cons fact23 (all_cons fact24 (all_cons fact25 (all_cons fact26 (all_cons fact27 (all_cons fact28 (all_cons fact29 (all_cons fact30 (all_cons fact31 (all_cons fact32 (all_cons fact33 (all_cons fact34 (all_cons fact35 (all_cons fact36 (all_cons fact37 (all_cons fact38 (all_cons fact39 (all_cons fact40 (all_cons fact41 (all_cons fact42 (all_cons fact43 (all_cons fact44 (all_cons fact45 (all_cons fact46 (all_cons fact47 (all_cons fact48 (all_cons fact49 (all_cons fact50 (all_cons fact51 (all_cons fact52 (all_cons fact53 (all_cons fact54 (all_cons fact55 (all_cons fact56 (all_cons fact57 (all_cons fact58 (all_cons fact59 (all_cons fact60 (all_cons fact61 (all_cons fact62 (all_cons fact63 (all_cons fact64 (all_cons fact65 (all_cons fact66 (all_cons fact67 (all_cons fact68 (all_cons fact69 (all_cons fact70 (all_cons fact71 (all_cons fact72 (all_cons fact73 (all_cons fact74 (all_cons fact75 (all_cons fact76 (all_cons fact77 (all_cons fact78 (all_cons fact79 (all_cons fact80 (all_cons fact81 (all_cons fact82 (all_cons fact83 (all_cons fact84 (all_cons fact85 (all_cons fact86 (all_cons fact87 (all_cons fact88 (all_cons fact89 (all_cons fact90 (all_cons fact91 (all_cons fact92 (all_cons fact93 (all_cons fact94 (all_cons fact95 (all_cons fact96 (all_cons fact97 (all_cons fact98 (all_cons fact99 (all_cons fact100 (all_cons fact101 (all_cons fact102 (all_cons fact103 (all_cons fact104 (all_cons fact105 (all_cons fact106 (all_cons fact107 (all_cons fact108 (all_cons fact109 (all_cons fact110 (all_cons fact111 all_nil))))))))))))))))))))))))))))))))))))))))))))))))))))))))))))))))))))))))))))))))))))))))))))))))))))))))))))))))
end p4
theorem spec4_0 : NatOk Try.prog (specNat (spP)) :=
  spec_of_check good (facts := p4.facts) p4.facts_ok (anns := annP) (plainAnns_ok _ (by kernel_rfl)) (nats := natl5) natl5_ok (n := 3000) (by kernel_rfl)
def natl6 : List Nat1 := specNat (spP) :: natl5
theorem natl6_ok : ∀ x ∈ natl6, NatOk Try.prog x := by
  intro x hx
  rcases List.mem_cons.1 hx with rfl | hx
  · exact spec4_0
  exact natl5_ok x hx

end
end Go.Proofs.Ytmcifbikfjmmfaa.drawsHolds
