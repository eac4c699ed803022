/-
  ViewEncodes: one reckoning by the kernel, over contracts of functions and facts.
-/
import Derived.Test.YtoicbojdnjcmiaaRows
import Derived.Test.YtoicbojdnjcmiaaTheory
import Derived.WalkKit
import Derived.ProofKit
import Derived.OpenShut
import Derived.ChangeOld
import Derived.Below
import Derived.KernelRfl
import Derived.JoinedCond
import Derived.Test.YtoicbojdnjcmiaaViewEncodesPartd
namespace Go.Proofs.Ytoicbojdnjcmiaa.viewEncodes
open Go.ChangeShapes Go.WideShapes Go.ChangeAt Go.RowKit
open Go.SX
set_option linter.unusedVariables false
set_option linter.unusedSimpArgs false
set_option maxRecDepth 100000
noncomputable section
abbrev Z0 : E := .var 0
abbrev Z1 : E := .cmp .lss Z0 (.int 0)
abbrev Z2 : E := .not (.cmp .lss Z0 (.int (-2147483647)))
abbrev Z3 : E := .and Z1 Z2
abbrev Z4 : E := .ar .mul .i64 (.int (-2)) Z0
abbrev Z5 : E := .ar .sub .i64 Z4 (.int 1)
abbrev Z6 : E := .wr .u64 Z5
abbrev Z7 : E := .not Z1
abbrev Z8 : E := .not (.cmp .lss (.int 2147483647) Z0)
abbrev Z9 : E := .and Z7 Z8
abbrev Z10 : E := .ar .mul .i64 (.int 2) Z0
abbrev Z11 : E := .wr .u64 Z10
abbrev Z12 : E := .var 8
abbrev Z13 : E := .cmp .lss Z12 (.int 128)
abbrev Z14 : E := .not Z13
abbrev Z15 : E := .cmp .lss (.int 18446744073709551615) Z12
abbrev Z16 : E := .not Z15
abbrev Z17 : E := .pr Z0 Z12
abbrev Z18 : E := .pr (.fn 10 (.int 0)) Z17
abbrev Z19 : E := .fn 121 Z18
abbrev Z20 : E := .not (.cmp .lss Z12 (.int 0))
abbrev Z21 : E := .var 9
abbrev Z22 : E := .var 12
abbrev Z23 : E := .fn 121 (.pr Z21 (.pr Z0 Z22))
abbrev Z24 : E := .var 10
abbrev Z25 : E := .cmp .lss Z24 (.int 1)
abbrev Z26 : E := .not Z25
abbrev Z27 : E := .cmp .eql Z24 (.fn 0 Z21)
abbrev Z28 : E := .and Z26 Z27
abbrev Z29 : E := .and Z14 Z16
abbrev Z30 : E := .and Z2 Z29
abbrev Z31 : E := .and Z8 Z30
abbrev Z32 : E := .and Z19 Z31
abbrev Z33 : E := .and Z2 Z28
abbrev Z34 : E := .and Z8 Z33
abbrev Z35 : E := .and Z23 Z34
abbrev Z36 : E := .cmp .lss Z22 (.int 128)
abbrev Z37 : E := .not Z36
abbrev Z38 : E := .cmp .lss (.int 18446744073709551615) Z22
abbrev Z39 : E := .not Z38
abbrev Z40 : E := .and Z37 Z39
abbrev Z41 : E := .and Z2 Z40
abbrev Z42 : E := .and Z8 Z41
abbrev Z43 : E := .and Z23 Z42
abbrev Z44 : E := .var 16
abbrev Z45 : E := .pr Z44 Z0
abbrev Z46 : E := .fn 106 Z45
abbrev Z47 : E := .fn 122 Z0
abbrev Z48 : E := .var 17
abbrev Z49 : E := .cmp .eql Z48 (.fn 0 Z44)
abbrev Z50 : E := .and (.not (.cmp .lss (.int 10000) Z48)) (.and (.not (.cmp .lss Z48 (.int 1))) Z49)
abbrev Z51 : E := .and Z46 (.and Z47 Z50)
abbrev Z52 : E := .var 22
abbrev Z53 : E := .cmp .lss Z52 Z48
abbrev Z54 : E := .cmp .lss Z52 (.int 1)
abbrev Z55 : E := .not Z54
abbrev Z56 : E := .and Z55 Z49
abbrev Z57 : E := .and Z53 Z56
abbrev Z58 : E := .and Z47 Z57
abbrev Z59 : E := .and Z46 Z58
abbrev Z60 : E := .var 19
abbrev Z61 : E := .and Z49 Z46
abbrev Z62 : E := .var 20
abbrev Z63 : E := .cmp .lss (.fn 8 (.pr (.int 10) Z52)) Z62
abbrev Z64 : E := .not Z63
abbrev Z65 : E := .cmp .eql Z62 (.fn 0 Z60)
abbrev Z66 : E := .cmp .lss Z62 (.int 1)
abbrev Z67 : E := .not Z66
abbrev Z68 : E := .and Z67 Z65
abbrev Z69 : E := .var 24
abbrev Z70 : E := .cmp .lss (.int 10) Z69
abbrev Z71 : E := .not Z70
abbrev Z72 : E := .cmp .lss Z69 (.int 1)
abbrev Z73 : E := .not Z72
abbrev Z74 : E := .cmp .eql Z69 (.fn 0 (.var 23))
abbrev Z75 : E := .and Z55 Z50
abbrev Z76 : E := .and Z65 Z75
abbrev Z77 : E := .and Z64 Z76
abbrev Z78 : E := .and Z74 Z77
abbrev Z79 : E := .and Z73 Z78
abbrev Z80 : E := .and Z71 Z79
abbrev Z81 : E := .and Z53 Z80
abbrev Z82 : E := .ar .add .i64 Z52 (.int 1)
abbrev Z83 : E := .and Z53 Z75
abbrev Z84 : E := .cmp .lss (.int 20) (.fn 9 (.pr (.fn 1 (.pr Z0 (.int 42))) (.int 3)))
abbrev Z85 : E := .fn 125 Z0
abbrev Z86 : E := .iff (.bool false) Z85
abbrev Z87 : E := .mx (.mx (.mx (.mx (.fn 9 (.pr (.fn 1 (.pr Z0 (.int 29))) (.int 12))) (.fn 9 (.pr (.fn 1 (.pr Z0 (.int 30))) (.int 5)))) (.fn 9 (.pr (.fn 1 (.pr Z0 (.int 31))) (.int 5)))) (.fn 0 (.fn 1 (.pr Z0 (.int 32))))) (.fn 9 (.pr (.fn 1 (.pr Z0 (.int 33))) (.int 2)))
abbrev Z88 : E := .mx Z87 (.fn 9 (.pr (.fn 1 (.pr Z0 (.int 8))) (.int 12)))
abbrev Z89 : E := .mx Z88 (.fn 9 (.pr (.fn 1 (.pr Z0 (.int 9))) (.int 12)))
abbrev Z90 : E := .mx Z89 (.fn 9 (.pr (.fn 1 (.pr Z0 (.int 22))) (.int 12)))
abbrev Z91 : E := .mx Z90 (.fn 9 (.pr (.fn 1 (.pr Z0 (.int 23))) (.int 12)))
abbrev Z92 : E := .cmp .lss (.int 1000) Z91
abbrev Z93 : E := .not Z92
abbrev Z94 : E := .cmp .lss (.int 1000) (.fn 9 (.pr (.fn 1 (.pr Z0 (.int 8))) (.int 12)))
abbrev Z95 : E := .not Z94
abbrev Z96 : E := .cmp .lss (.int 1000) (.fn 9 (.pr (.fn 1 (.pr Z0 (.int 9))) (.int 12)))
abbrev Z97 : E := .not Z96
abbrev Z98 : E := .cmp .lss (.int 1000) (.fn 9 (.pr (.fn 1 (.pr Z0 (.int 22))) (.int 12)))
abbrev Z99 : E := .not Z98
abbrev Z100 : E := .cmp .lss (.int 1000) (.fn 9 (.pr (.fn 1 (.pr Z0 (.int 23))) (.int 12)))
abbrev Z101 : E := .not Z100
abbrev Z102 : E := .cmp .lss (.int 1000) (.fn 9 (.pr (.fn 1 (.pr Z0 (.int 29))) (.int 12)))
abbrev Z103 : E := .not Z102
abbrev Z104 : E := .cmp .lss (.int 1000) (.fn 9 (.pr (.fn 1 (.pr Z0 (.int 30))) (.int 5)))
abbrev Z105 : E := .not Z104
abbrev Z106 : E := .cmp .lss (.int 1000) (.fn 9 (.pr (.fn 1 (.pr Z0 (.int 31))) (.int 5)))
abbrev Z107 : E := .not Z106
abbrev Z108 : E := .cmp .lss (.int 1000) (.fn 9 (.pr (.fn 1 (.pr Z0 (.int 33))) (.int 2)))
abbrev Z109 : E := .not Z108
abbrev Z110 : E := .cmp .lss (.int 1000) (.fn 0 (.fn 1 (.pr Z0 (.int 32))))
abbrev Z111 : E := .not Z110
abbrev Z112 : E := .cmp .lss Z12 (.fn 9 (.pr (.fn 1 (.pr Z0 (.int 30))) (.int 5)))
abbrev Z113 : E := .cmp .lss (.int 16) (.fn 9 (.pr (.fn 1 (.pr (.fn 1 (.pr Z0 (.int 30))) (.fn 6 (.pr (.fn 8 (.pr Z12 (.int 5))) (.int 4))))) (.int 2)))
abbrev Z114 : E := .pr (.fn 1 (.pr Z0 (.int 30))) Z12
abbrev Z115 : E := .fn 126 Z114
abbrev Z116 : E := .ar .add .i64 Z12 (.int 1)
abbrev Z117 : E := .cmp .lss (.fn 9 (.pr (.fn 1 (.pr Z0 (.int 30))) (.int 5))) Z12
abbrev Z118 : E := .not Z117
abbrev Z119 : E := .fn 126 (.pr (.fn 1 (.pr Z0 (.int 30))) (.fn 9 (.pr (.fn 1 (.pr Z0 (.int 30))) (.int 5))))
abbrev Z120 : E := .cmp .lss Z44 (.fn 9 (.pr (.fn 1 (.pr Z0 (.int 31))) (.int 5)))
abbrev Z121 : E := .cmp .lss (.int 16) (.fn 9 (.pr (.fn 1 (.pr (.fn 1 (.pr Z0 (.int 31))) (.fn 6 (.pr (.fn 8 (.pr Z44 (.int 5))) (.int 4))))) (.int 2)))
abbrev Z122 : E := .cmp .lss Z44 (.int 0)
abbrev Z123 : E := .not Z122
abbrev Z124 : E := .pr (.fn 1 (.pr Z0 (.int 31))) Z44
abbrev Z125 : E := .fn 126 Z124
abbrev Z126 : E := .ar .add .i64 Z44 (.int 1)
abbrev Z127 : E := .and Z123 Z107
abbrev Z128 : E := .and Z120 Z127
abbrev Z129 : E := .and Z120 Z123
abbrev Z130 : E := .var 1
abbrev Z131 : E := .fn 127 Z0
abbrev Z132 : E := .iff (.bool false) Z131
abbrev Z133 : E := .cmp .eql (.fn 1 (.pr Z0 (.int 0))) (.int 1)
abbrev Z134 : E := .cmp .eql (.fn 1 (.pr Z0 (.int 0))) (.int 0)
abbrev Z135 : E := .not Z134
abbrev Z136 : E := .and Z135 (.not Z133)
abbrev Z137 : E := .not Z136
abbrev Z138 : E := .var 2
abbrev Z139 : E := .cmp .lss Z60 Z48
abbrev Z140 : E := .cmp .lss (.int 2147483647) (.fn 1 (.pr Z44 Z60))
abbrev Z141 : E := .cmp .lss Z60 (.int 0)
abbrev Z142 : E := .not Z141
abbrev Z143 : E := .and Z142 Z61
abbrev Z144 : E := .cmp .lss (.fn 1 (.pr Z44 Z60)) (.int (-2147483647))
abbrev Z145 : E := .fn 128 (.pr Z44 Z60)
abbrev Z146 : E := .ar .add .i64 Z60 (.int 1)
abbrev Z147 : E := .and Z139 (.and Z142 Z50)
abbrev Z148 : E := .cmp .lss (.int 100000) Z138
abbrev Z149 : E := .not Z148
abbrev Z150 : E := .cmp .lss Z138 (.int 1)
abbrev Z151 : E := .not Z150
abbrev Z152 : E := .cmp .eql Z138 (.fn 0 Z130)
abbrev Z153 : E := .fn 104 (.pr Z130 (.pr (.var 4) (.pr Z0 (.int 43))))
abbrev Z154 : E := .cmp .lss (.int 65535) Z138
abbrev Z155 : E := .cmp .lss (.int 1048577) (.fn 117 Z0)
abbrev Z156 : E := .not Z155
abbrev Z157 : E := .cmp .lss Z21 (.fn 9 (.pr Z0 (.int 5)))
abbrev Z158 : E := .cmp .eql Z12 (.fn 114 (.pr Z0 Z21))
abbrev Z159 : E := .ar .add .i64 Z21 (.int 1)
abbrev Z160 : E := .and Z156 (.and (.fn 118 (.pr (.int 2) Z0)) (.and Z157 (.not (.cmp .lss Z21 (.int 0)))))
abbrev Z161 : E := .mx Z87 (.fn 9 (.pr (.fn 1 (.pr Z0 (.int 42))) (.int 3)))
abbrev Z162 : E := .mx Z161 (.fn 9 (.pr (.fn 1 (.pr Z0 (.int 8))) (.int 12)))
abbrev Z163 : E := .mx Z162 (.fn 9 (.pr (.fn 1 (.pr Z0 (.int 9))) (.int 12)))
abbrev Z164 : E := .mx Z163 (.fn 9 (.pr (.fn 1 (.pr Z0 (.int 22))) (.int 12)))
abbrev Z165 : E := .mx Z164 (.fn 9 (.pr (.fn 1 (.pr Z0 (.int 23))) (.int 12)))
abbrev Z166 : E := .cmp .lss (.int 60) Z165
abbrev Z167 : E := .fn 112 Z0
abbrev Z168 : E := .cmp .eql Z130 (.fn 114 (.pr (.fn 1 (.pr Z0 (.int 30))) (.fn 9 (.pr (.fn 1 (.pr Z0 (.int 30))) (.int 5)))))
abbrev Z169 : E := .and (.not Z131) (.and (.iff Z138 Z131) Z138)
namespace p14
def f0 : E := (.imp Z3 (.fn 121 (.pr (.fn 10 (.int 0)) (.pr Z0 Z6))))
theorem fact0 (ρ : Env) : E.B ρ f0 = true := by
  unfold f0
  rw [sm_B_imp]
  simp only [sm_B_and]
  rintro ⟨p0, p1⟩
  exact t121_start (zn_neg (by simp only [smZ] at * <;> omega) (by simp only [smZ] at * <;> omega))
def f1 : E := (.imp Z9 (.fn 121 (.pr (.fn 10 (.int 0)) (.pr Z0 Z11))))
theorem fact1 (ρ : Env) : E.B ρ f1 = true := by
  unfold f1
  rw [sm_B_imp]
  simp only [sm_B_and]
  rintro ⟨p0, p1⟩
  exact t121_start (zn_nn (by simp only [smZ] at * <;> omega) (by simp only [smZ] at * <;> omega))
def f2 : E := (.imp Z3 (.not (.cmp .lss Z6 (.int 0))))
theorem fact2 (ρ : Env) : E.B ρ f2 = true := by
  unfold f2
  rw [sm_B_imp]
  simp only [sm_B_and]
  rintro ⟨p0, p1⟩
  obtain ⟨y0, y1⟩ : (-9223372036854775808) ≤ E.I ρ Z0 ∧ E.I ρ Z0 ≤ (9223372036854775807) := by
    try simp only [smZ] at *
    omega
  have hz := zn_neg (ρ := ρ) (n := Z0) (by simp only [smZ] at * <;> omega) (by simp only [smZ] at * <;> omega)
  rw [sm_B_not, sm_B_lss]
  exact zig_lo ⟨y0, y1⟩ hz
def f3 : E := (.imp Z9 (.not (.cmp .lss Z11 (.int 0))))
theorem fact3 (ρ : Env) : E.B ρ f3 = true := by
  unfold f3
  rw [sm_B_imp]
  simp only [sm_B_and]
  rintro ⟨p0, p1⟩
  obtain ⟨y0, y1⟩ : (-9223372036854775808) ≤ E.I ρ Z0 ∧ E.I ρ Z0 ≤ (9223372036854775807) := by
    try simp only [smZ] at *
    omega
  have hz := zn_nn (ρ := ρ) (n := Z0) (by simp only [smZ] at * <;> omega) (by simp only [smZ] at * <;> omega)
  rw [sm_B_not, sm_B_lss]
  exact zig_lo ⟨y0, y1⟩ hz
def f4 : E := (.imp Z3 (.not (.cmp .lss (.int 18446744073709551615) Z6)))
theorem fact4 (ρ : Env) : E.B ρ f4 = true := by
  unfold f4
  rw [sm_B_imp]
  simp only [sm_B_and]
  rintro ⟨p0, p1⟩
  obtain ⟨y0, y1⟩ : (-9223372036854775808) ≤ E.I ρ Z0 ∧ E.I ρ Z0 ≤ (9223372036854775807) := by
    try simp only [smZ] at *
    omega
  have hz := zn_neg (ρ := ρ) (n := Z0) (by simp only [smZ] at * <;> omega) (by simp only [smZ] at * <;> omega)
  rw [sm_B_not, sm_B_lss]
  exact zig_hi ⟨y0, y1⟩ hz
def f5 : E := (.imp Z9 (.not (.cmp .lss (.int 18446744073709551615) Z11)))
theorem fact5 (ρ : Env) : E.B ρ f5 = true := by
  unfold f5
  rw [sm_B_imp]
  simp only [sm_B_and]
  rintro ⟨p0, p1⟩
  obtain ⟨y0, y1⟩ : (-9223372036854775808) ≤ E.I ρ Z0 ∧ E.I ρ Z0 ≤ (9223372036854775807) := by
    try simp only [smZ] at *
    omega
  have hz := zn_nn (ρ := ρ) (n := Z0) (by simp only [smZ] at * <;> omega) (by simp only [smZ] at * <;> omega)
  rw [sm_B_not, sm_B_lss]
  exact zig_hi ⟨y0, y1⟩ hz
def f6 : E := (.imp (.and Z14 (.and Z8 (.and Z2 (.and Z16 Z19)))) (.fn 121 (.pr (.fn 23 (.pr (.wr .u8 (.ar .add .u64 (.int 128) (.ar .rem .u64 Z12 (.int 128)))) (.fn 10 (.int 0)))) (.pr Z0 (.ar .quo .u64 Z12 (.int 128))))))
theorem fact6 (ρ : Env) : E.B ρ f6 = true := by
  unfold f6
  rw [sm_B_imp]
  simp only [sm_B_and]
  rintro ⟨p0, p1, p2, p3, p4⟩
  obtain ⟨g0, g1⟩ : (0) ≤ E.I ρ Z12 ∧ E.I ρ Z12 ≤ (18446744073709551615) := by
    try simp only [smZ] at *
    omega
  exact t121_step0 p4 (by simp only [smZ] at * <;> omega) (I_b128 g0) (I_q128 g0 g1)
def f7 : E := (.imp (.and Z13 (.and Z8 (.and Z2 (.and Z20 Z19)))) (.fn 120 (.pr (.fn 23 (.pr (.wr .u8 Z12) (.fn 10 (.int 0)))) Z0)))
theorem fact7 (ρ : Env) : E.B ρ f7 = true := by
  unfold f7
  rw [sm_B_imp]
  simp only [sm_B_and]
  rintro ⟨p0, p1, p2, p3, p4⟩
  obtain ⟨g0, g1⟩ : (0) ≤ E.I ρ Z12 ∧ E.I ρ Z12 < (128) := by
    try simp only [smZ] at *
    omega
  exact t120_end0 p4 g1 g0 (I_wr8 g0 g1)
def f8 : E := (.imp (.and Z23 (.and Z8 (.and Z2 (.and (.not (.cmp .lss (.var 11) Z24)) Z28)))) (.not (.cmp .lss (.var 11) (.int 0))))
theorem fact8 (ρ : Env) : E.B ρ f8 = true := by
  unfold f8
  rw [sm_B_imp]
  simp only [sm_B_and]
  rintro ⟨p0, p1, p2, p3, p4, p5⟩
  try simp only [smZ] at *
  omega
def f9 : E := (.imp Z32 (.not (.cmp .lss (.ar .quo .u64 Z12 (.int 128)) (.int 0))))
theorem fact9 (ρ : Env) : E.B ρ f9 = true := by
  unfold f9
  rw [sm_B_imp]
  simp only [sm_B_and]
  rintro ⟨p0, p1, p2, p3, p4⟩
  have hq0 := I_q128 (ρ := ρ) (v := Z12) (by simp only [smZ] at * <;> omega) (by simp only [smZ] at * <;> omega)
  have hl0 := t121_len p0 (by simp only [smZ] at * <;> omega) (by simp only [smZ] at * <;> omega)
  try simp only [smZ] at *
  omega
def f10 : E := (.imp Z35 (.not (.cmp .lss (.int 2147483648) (.fn 6 (.pr Z24 (.int 1))))))
theorem fact10 (ρ : Env) : E.B ρ f10 = true := by
  unfold f10
  rw [sm_B_imp]
  simp only [sm_B_and]
  rintro ⟨p0, p1, p2, p3, p4⟩
  have hl0 := t121_len p0 (by simp only [smZ] at * <;> omega) (by simp only [smZ] at * <;> omega)
  try simp only [smZ] at *
  have n3 := @fn0_nn ρ Z21
  omega
def f11 : E := (.imp Z32 (.not (.cmp .lss (.int 18446744073709551615) (.ar .quo .u64 Z12 (.int 128)))))
theorem fact11 (ρ : Env) : E.B ρ f11 = true := by
  unfold f11
  rw [sm_B_imp]
  simp only [sm_B_and]
  rintro ⟨p0, p1, p2, p3, p4⟩
  have hq0 := I_q128 (ρ := ρ) (v := Z12) (by simp only [smZ] at * <;> omega) (by simp only [smZ] at * <;> omega)
  have hl0 := t121_len p0 (by simp only [smZ] at * <;> omega) (by simp only [smZ] at * <;> omega)
  try simp only [smZ] at *
  omega
def f12 : E := (.imp (.and Z37 (.and Z39 (.and Z23 (.and Z8 Z2)))) (.fn 121 (.pr (.fn 3 (.pr Z21 (.fn 23 (.pr (.wr .u8 (.ar .add .u64 (.int 128) (.ar .rem .u64 Z22 (.int 128)))) (.fn 10 (.int 0)))))) (.pr Z0 (.ar .quo .u64 Z22 (.int 128))))))
theorem fact12 (ρ : Env) : E.B ρ f12 = true := by
  unfold f12
  rw [sm_B_imp]
  simp only [sm_B_and]
  rintro ⟨p0, p1, p2, p3, p4⟩
  obtain ⟨g0, g1⟩ : (0) ≤ E.I ρ Z22 ∧ E.I ρ Z22 ≤ (18446744073709551615) := by
    try simp only [smZ] at *
    omega
  exact t121_step p2 (by simp only [smZ] at * <;> omega) (I_b128 g0) (I_q128 g0 g1)
def f13 : E := (.imp (.and Z36 (.and (.not (.cmp .lss Z22 (.int 0))) (.and Z23 (.and Z8 Z2)))) (.fn 120 (.pr (.fn 3 (.pr Z21 (.fn 23 (.pr (.wr .u8 Z22) (.fn 10 (.int 0)))))) Z0)))
theorem fact13 (ρ : Env) : E.B ρ f13 = true := by
  unfold f13
  rw [sm_B_imp]
  simp only [sm_B_and]
  rintro ⟨p0, p1, p2, p3, p4⟩
  obtain ⟨g0, g1⟩ : (0) ≤ E.I ρ Z22 ∧ E.I ρ Z22 < (128) := by
    try simp only [smZ] at *
    omega
  exact t120_end p2 g1 g0 (I_wr8 g0 g1)
def f14 : E := (.imp Z32 (.cmp .lss (.ar .quo .u64 Z12 (.int 128)) Z12))
theorem fact14 (ρ : Env) : E.B ρ f14 = true := by
  unfold f14
  rw [sm_B_imp]
  simp only [sm_B_and]
  rintro ⟨p0, p1, p2, p3, p4⟩
  have hq0 := I_q128 (ρ := ρ) (v := Z12) (by simp only [smZ] at * <;> omega) (by simp only [smZ] at * <;> omega)
  have hl0 := t121_len p0 (by simp only [smZ] at * <;> omega) (by simp only [smZ] at * <;> omega)
  try simp only [smZ] at *
  omega
def f15 : E := (.imp (.and Z23 (.and Z8 Z27)) (.cmp .eql (.fn 6 (.pr Z24 (.int 1))) (.fn 6 (.pr (.fn 0 Z21) (.int 1)))))
theorem fact15 (ρ : Env) : E.B ρ f15 = true := by
  unfold f15
  rw [sm_B_imp]
  simp only [sm_B_and]
  rintro ⟨p0, p1, p2⟩
  try simp only [smZ] at *
  omega
def f16 : E := (.imp Z43 (.not (.cmp .lss (.ar .quo .u64 Z22 (.int 128)) (.int 0))))
theorem fact16 (ρ : Env) : E.B ρ f16 = true := by
  unfold f16
  rw [sm_B_imp]
  simp only [sm_B_and]
  rintro ⟨p0, p1, p2, p3, p4⟩
  have hq0 := I_q128 (ρ := ρ) (v := Z22) (by simp only [smZ] at * <;> omega) (by simp only [smZ] at * <;> omega)
  have hl0 := t121_len p0 (by simp only [smZ] at * <;> omega) (by simp only [smZ] at * <;> omega)
  try simp only [smZ] at *
  omega
def f17 : E := (.imp Z35 (.not (.cmp .lss (.int 10) (.fn 6 (.pr Z24 (.int 1))))))
theorem fact17 (ρ : Env) : E.B ρ f17 = true := by
  unfold f17
  rw [sm_B_imp]
  simp only [sm_B_and]
  rintro ⟨p0, p1, p2, p3, p4⟩
  have hl0 := t121_len p0 (by simp only [smZ] at * <;> omega) (by simp only [smZ] at * <;> omega)
  try simp only [smZ] at *
  have n3 := @fn0_nn ρ Z21
  omega
def f18 : E := (.imp Z43 (.not (.cmp .lss (.int 18446744073709551615) (.ar .quo .u64 Z22 (.int 128)))))
theorem fact18 (ρ : Env) : E.B ρ f18 = true := by
  unfold f18
  rw [sm_B_imp]
  simp only [sm_B_and]
  rintro ⟨p0, p1, p2, p3, p4⟩
  have hq0 := I_q128 (ρ := ρ) (v := Z22) (by simp only [smZ] at * <;> omega) (by simp only [smZ] at * <;> omega)
  have hl0 := t121_len p0 (by simp only [smZ] at * <;> omega) (by simp only [smZ] at * <;> omega)
  try simp only [smZ] at *
  omega
def f19 : E := (.imp Z43 (.cmp .lss (.ar .quo .u64 Z22 (.int 128)) Z22))
theorem fact19 (ρ : Env) : E.B ρ f19 = true := by
  unfold f19
  rw [sm_B_imp]
  simp only [sm_B_and]
  rintro ⟨p0, p1, p2, p3, p4⟩
  have hq0 := I_q128 (ρ := ρ) (v := Z22) (by simp only [smZ] at * <;> omega) (by simp only [smZ] at * <;> omega)
  have hl0 := t121_len p0 (by simp only [smZ] at * <;> omega) (by simp only [smZ] at * <;> omega)
  try simp only [smZ] at *
  omega
def facts : List E := [f0, f1, f2, f3, f4, f5, f6, f7, f8, f9, f10, f11, f12, f13, f14, f15, f16, f17, f18, f19]
theorem facts_ok : ∀ e ∈ facts, ∀ ρ : Env, E.B ρ e = true := (all_cons fact0 (all_cons fact1 (all_cons fact2 (all_cons fact3 (all_cons fact4 (all_cons fact5 (all_cons fact6 (all_cons fact7 (all_cons fact8 (all_cons fact9 (all_cons fact10 (all_cons fact11 (all_cons fact12 (all_cons fact13 (all_cons fact14 (all_cons fact15 (all_cons fact16 (all_cons fact17 (all_cons fact18 (all_cons fact19 all_nil))))))))))))))))))))
end p14
theorem spec14_0 : NatOk Try.prog (specNat (spNum)) :=
  spec_of_check good (facts := p14.facts) p14.facts_ok (anns := annNum) (plainAnns_ok _ (by kernel_rfl)) (nats := natl15) natl15_ok (n := 3000) (by kernel_rfl)
def natl16 : List Nat1 := specNat (spNum) :: natl15
theorem natl16_ok : ∀ x ∈ natl16, NatOk Try.prog x := by
  intro x hx
  rcases List.mem_cons.1 hx with rfl | hx
  · exact spec14_0
  exact natl15_ok x hx

namespace p15
def f0 : E := (.imp Z51 (.not (.cmp .lss (.fn 1 (.pr Z44 (.int 0))) (.int (-2147483647)))))
theorem fact0 (ρ : Env) : E.B ρ f0 = true := by
  unfold f0
  rw [sm_B_imp]
  simp only [sm_B_and]
  rintro ⟨p0, p1, p2, p3, p4⟩
  have hw0 := t122_get p1 p0 (i := (.int 0)) (by simp only [smZ] at * <;> omega) (by simp only [smZ] at * <;> omega)
  try simp only [smZ] at *
  have n2 := @fn0_nn ρ Z44
  omega
def f1 : E := (.imp Z59 (.not (.cmp .lss (.fn 1 (.pr Z44 Z52)) (.int (-2147483647)))))
theorem fact1 (ρ : Env) : E.B ρ f1 = true := by
  unfold f1
  rw [sm_B_imp]
  simp only [sm_B_and]
  rintro ⟨p0, p1, p2, p3, p4⟩
  have hw0 := t122_get p1 p0 (i := Z52) (by simp only [smZ] at * <;> omega) (by simp only [smZ] at * <;> omega)
  try simp only [smZ] at *
  have n3 := @fn0_nn ρ Z44
  omega
def f2 : E := (.imp (.and (.not Z53) (.and (.not (.cmp .lss Z48 Z52)) (.and (.fn 124 (.pr Z60 (.pr Z44 Z52))) Z61))) (.fn 123 (.pr Z60 Z0)))
theorem fact2 (ρ : Env) : E.B ρ f2 = true := by
  unfold f2
  rw [sm_B_imp]
  simp only [sm_B_and]
  rintro ⟨p0, p1, p2, p3, p4⟩
  exact t123_end p2 p4 (by simp only [smZ] at * <;> omega)
def f3 : E := (.imp Z51 (.not (.cmp .lss (.int 2147483647) (.fn 1 (.pr Z44 (.int 0))))))
theorem fact3 (ρ : Env) : E.B ρ f3 = true := by
  unfold f3
  rw [sm_B_imp]
  simp only [sm_B_and]
  rintro ⟨p0, p1, p2, p3, p4⟩
  have hw0 := t122_get p1 p0 (i := (.int 0)) (by simp only [smZ] at * <;> omega) (by simp only [smZ] at * <;> omega)
  try simp only [smZ] at *
  have n2 := @fn0_nn ρ Z44
  omega
def f4 : E := (.imp Z59 (.not (.cmp .lss (.int 2147483647) (.fn 1 (.pr Z44 Z52)))))
theorem fact4 (ρ : Env) : E.B ρ f4 = true := by
  unfold f4
  rw [sm_B_imp]
  simp only [sm_B_and]
  rintro ⟨p0, p1, p2, p3, p4⟩
  have hw0 := t122_get p1 p0 (i := Z52) (by simp only [smZ] at * <;> omega) (by simp only [smZ] at * <;> omega)
  try simp only [smZ] at *
  have n3 := @fn0_nn ρ Z44
  omega
def f5 : E := (.imp (.and (.not Z53) (.and Z64 (.and Z65 (.and (.not (.cmp .lss Z48 Z52)) (.and Z55 (.and (.not (.cmp .lss (.int 10000) Z48)) Z49)))))) (.not (.cmp .lss (.int 100000) Z62)))
theorem fact5 (ρ : Env) : E.B ρ f5 = true := by
  unfold f5
  rw [sm_B_imp]
  simp only [sm_B_and]
  rintro ⟨p0, p1, p2, p3, p4, p5, p6⟩
  try simp only [smZ] at *
  omega
def f6 : E := (.imp (.and (.fn 120 (.pr Z60 (.fn 1 (.pr Z44 (.int 0))))) Z50) (.fn 124 (.pr Z60 (.pr Z44 (.int 1)))))
theorem fact6 (ρ : Env) : E.B ρ f6 = true := by
  unfold f6
  rw [sm_B_imp]
  simp only [sm_B_and]
  rintro ⟨p0, p1, p2, p3⟩
  exact t124_first p0 (by simp only [smZ] at * <;> omega)
def f7 : E := (.imp (.and (.not (.cmp .lss (.var 21) Z62)) Z68) (.not (.cmp .lss (.var 21) (.int 0))))
theorem fact7 (ρ : Env) : E.B ρ f7 = true := by
  unfold f7
  rw [sm_B_imp]
  simp only [sm_B_and]
  rintro ⟨p0, p1, p2⟩
  try simp only [smZ] at *
  omega
def f8 : E := (.imp (.and (.not (.cmp .lss (.int 10) Z62)) Z68) (.not (.cmp .lss (.fn 8 (.pr (.int 10) (.int 1))) Z62)))
theorem fact8 (ρ : Env) : E.B ρ f8 = true := by
  unfold f8
  rw [sm_B_imp]
  simp only [sm_B_and]
  rintro ⟨p0, p1, p2⟩
  try simp only [smZ] at *
  omega
def f9 : E := (.imp Z81 (.not (.cmp .lss (.int 2147483648) (.fn 6 (.pr Z62 Z69)))))
theorem fact9 (ρ : Env) : E.B ρ f9 = true := by
  unfold f9
  rw [sm_B_imp]
  simp only [sm_B_and]
  rintro ⟨p0, p1, p2, p3, p4, p5, p6, p7, p8, p9⟩
  try simp only [smZ] at *
  omega
def f10 : E := (.imp Z46 (.cmp .lss (.fn 7 (.pr Z48 (.int 1))) Z48))
theorem fact10 (ρ : Env) : E.B ρ f10 = true := by
  unfold f10
  rw [sm_B_imp]
  intro p0
  try simp only [smZ] at *
  omega
def f11 : E := (.imp (.and Z53 (.and (.fn 120 (.pr (.var 23) (.fn 1 (.pr Z44 Z52)))) (.and Z55 (.and (.fn 124 (.pr Z60 (.pr Z44 Z52))) Z50)))) (.fn 124 (.pr (.fn 3 (.pr Z60 (.var 23))) (.pr Z44 Z82))))
theorem fact11 (ρ : Env) : E.B ρ f11 = true := by
  unfold f11
  rw [sm_B_imp]
  simp only [sm_B_and]
  rintro ⟨p0, p1, p2, p3, p4, p5, p6⟩
  have g0 : E.I ρ Z82 = E.I ρ (.fn 6 (.pr Z52 (.int 1))) := by
    try simp only [smZ] at *
    obtain ⟨a3, ea3, qa3⟩ := cs_i64 ((E.I ρ Z52) + (1))
    try simp only [ea3] at *
    omega
  exact t124_step p3 p1 (by simp only [smZ] at * <;> omega) (by simp only [smZ] at * <;> omega) g0
def f12 : E := (.imp Z50 (.not (.cmp .lss (.fn 7 (.pr Z48 (.int 1))) (.int 0))))
theorem fact12 (ρ : Env) : E.B ρ f12 = true := by
  unfold f12
  rw [sm_B_imp]
  simp only [sm_B_and]
  rintro ⟨p0, p1, p2⟩
  try simp only [smZ] at *
  omega
def f13 : E := (.imp Z83 (.not (.cmp .lss Z82 (.int 1))))
theorem fact13 (ρ : Env) : E.B ρ f13 = true := by
  unfold f13
  rw [sm_B_imp]
  simp only [sm_B_and]
  rintro ⟨p0, p1, p2, p3, p4⟩
  try simp only [smZ] at *
  obtain ⟨a3, ea3, qa3⟩ := cs_i64 ((E.I ρ Z52) + (1))
  try simp only [ea3] at *
  omega
def f14 : E := (.imp Z83 (.not (.cmp .lss Z48 Z82)))
theorem fact14 (ρ : Env) : E.B ρ f14 = true := by
  unfold f14
  rw [sm_B_imp]
  simp only [sm_B_and]
  rintro ⟨p0, p1, p2, p3, p4⟩
  try simp only [smZ] at *
  obtain ⟨a3, ea3, qa3⟩ := cs_i64 ((E.I ρ Z52) + (1))
  try simp only [ea3] at *
  omega
def f15 : E := (.imp (.and Z74 Z65) (.cmp .eql (.fn 6 (.pr Z62 Z69)) (.fn 6 (.pr (.fn 0 Z60) (.fn 0 (.var 23))))))
theorem fact15 (ρ : Env) : E.B ρ f15 = true := by
  unfold f15
  rw [sm_B_imp]
  simp only [sm_B_and]
  rintro ⟨p0, p1⟩
  try simp only [smZ] at *
  omega
def f16 : E := (.imp (.and Z71 (.and Z73 (.and Z74 Z68))) (.not (.cmp .lss (.fn 6 (.pr Z62 Z69)) (.int 1))))
theorem fact16 (ρ : Env) : E.B ρ f16 = true := by
  unfold f16
  rw [sm_B_imp]
  simp only [sm_B_and]
  rintro ⟨p0, p1, p2, p3, p4⟩
  try simp only [smZ] at *
  omega
def f17 : E := (.imp Z81 (.not (.cmp .lss (.fn 8 (.pr (.int 10) Z82)) (.fn 6 (.pr Z62 Z69)))))
theorem fact17 (ρ : Env) : E.B ρ f17 = true := by
  unfold f17
  rw [sm_B_imp]
  simp only [sm_B_and]
  rintro ⟨p0, p1, p2, p3, p4, p5, p6, p7, p8, p9⟩
  try simp only [smZ] at *
  obtain ⟨a7, ea7, qa7⟩ := cs_i64 ((E.I ρ Z52) + (1))
  try simp only [ea7] at *
  omega
def f18 : E := (.imp Z83 (.cmp .lss (.fn 7 (.pr Z48 Z82)) (.fn 7 (.pr Z48 Z52))))
theorem fact18 (ρ : Env) : E.B ρ f18 = true := by
  unfold f18
  rw [sm_B_imp]
  simp only [sm_B_and]
  rintro ⟨p0, p1, p2, p3, p4⟩
  try simp only [smZ] at *
  obtain ⟨a3, ea3, qa3⟩ := cs_i64 ((E.I ρ Z52) + (1))
  try simp only [ea3] at *
  omega
def f19 : E := (.imp Z83 (.not (.cmp .lss (.fn 7 (.pr Z48 Z82)) (.int 0))))
theorem fact19 (ρ : Env) : E.B ρ f19 = true := by
  unfold f19
  rw [sm_B_imp]
  simp only [sm_B_and]
  rintro ⟨p0, p1, p2, p3, p4⟩
  try simp only [smZ] at *
  obtain ⟨a3, ea3, qa3⟩ := cs_i64 ((E.I ρ Z52) + (1))
  try simp only [ea3] at *
  omega
def facts : List E := [f0, f1, f2, f3, f4, f5, f6, f7, f8, f9, f10, f11, f12, f13, f14, f15, f16, f17, f18, f19]
theorem facts_ok : ∀ e ∈ facts, ∀ ρ : Env, E.B ρ e = true := (all_cons fact0 (all_cons fact1 (all_cons fact2 (all_cons fact3 (all_cons fact4 (all_cons fact5 (all_cons fact6 (all_cons fact7 (all_cons fact8 (all_cons fact9 (all_cons fact10 (all_cons fact11 (all_cons fact12 (all_cons fact13 (all_cons fact14 (all_cons fact15 (all_cons fact16 (all_cons fact17 (all_cons fact18 (all_cons fact19 all_nil))))))))))))))))))))
end p15
theorem spec15_0 : NatOk Try.prog (specNat (spBy)) :=
  spec_of_check good (facts := p15.facts) p15.facts_ok (anns := annBy) (plainAnns_ok _ (by kernel_rfl)) (nats := natl16) natl16_ok (n := 3000) (by kernel_rfl)
def natl17 : List Nat1 := specNat (spBy) :: natl16
theorem natl17_ok : ∀ x ∈ natl17, NatOk Try.prog x := by
  intro x hx
  rcases List.mem_cons.1 hx with rfl | hx
  · exact spec15_0
  exact natl16_ok x hx

namespace p16
def f0 : E := (.imp Z84 Z86)
theorem fact0 (ρ : Env) : E.B ρ f0 = true := by
  unfold f0
  rw [sm_B_imp]
  intro p0
  rw [sm_B_iff, sm_B_bool]
  simp only [Bool.false_eq_true, false_iff]
  intro hc
  rw [z125'] at hc
  try simp only [smZ] at *
  omega
def f1 : E := (.imp Z93 Z95)
theorem fact1 (ρ : Env) : E.B ρ f1 = true := by
  unfold f1
  rw [sm_B_imp]
  intro p0
  try simp only [smZ] at *
  omega
def f2 : E := (.imp Z92 Z86)
theorem fact2 (ρ : Env) : E.B ρ f2 = true := by
  unfold f2
  rw [sm_B_imp]
  intro p0
  rw [sm_B_iff, sm_B_bool]
  simp only [Bool.false_eq_true, false_iff]
  intro hc
  rw [z125'] at hc
  try simp only [smZ] at *
  omega
def f3 : E := (.imp Z93 Z97)
theorem fact3 (ρ : Env) : E.B ρ f3 = true := by
  unfold f3
  rw [sm_B_imp]
  intro p0
  try simp only [smZ] at *
  omega
def f4 : E := (.imp Z93 Z99)
theorem fact4 (ρ : Env) : E.B ρ f4 = true := by
  unfold f4
  rw [sm_B_imp]
  intro p0
  try simp only [smZ] at *
  omega
def f5 : E := (.imp Z93 Z101)
theorem fact5 (ρ : Env) : E.B ρ f5 = true := by
  unfold f5
  rw [sm_B_imp]
  intro p0
  try simp only [smZ] at *
  omega
def f6 : E := (.imp Z93 Z103)
theorem fact6 (ρ : Env) : E.B ρ f6 = true := by
  unfold f6
  rw [sm_B_imp]
  intro p0
  try simp only [smZ] at *
  omega
def f7 : E := (.imp Z93 Z105)
theorem fact7 (ρ : Env) : E.B ρ f7 = true := by
  unfold f7
  rw [sm_B_imp]
  intro p0
  try simp only [smZ] at *
  omega
def f8 : E := (.imp Z93 Z107)
theorem fact8 (ρ : Env) : E.B ρ f8 = true := by
  unfold f8
  rw [sm_B_imp]
  intro p0
  try simp only [smZ] at *
  omega
def f9 : E := (.imp Z93 Z109)
theorem fact9 (ρ : Env) : E.B ρ f9 = true := by
  unfold f9
  rw [sm_B_imp]
  intro p0
  try simp only [smZ] at *
  omega
def f10 : E := (.imp Z93 Z111)
theorem fact10 (ρ : Env) : E.B ρ f10 = true := by
  unfold f10
  rw [sm_B_imp]
  intro p0
  try simp only [smZ] at *
  omega
def f11 : E := (.imp Z93 (.fn 126 (.pr (.fn 1 (.pr Z0 (.int 30))) (.int 0))))
theorem fact11 (ρ : Env) : E.B ρ f11 = true := by
  unfold f11
  rw [sm_B_imp]
  intro p0
  exact t126_zero (Int.le_refl 0)
def f12 : E := (.imp (.and Z20 (.and Z112 Z113)) Z86)
theorem fact12 (ρ : Env) : E.B ρ f12 = true := by
  unfold f12
  rw [sm_B_imp]
  simp only [sm_B_and]
  rintro ⟨p0, p1, p2⟩
  rw [sm_B_iff, sm_B_bool]
  simp only [Bool.false_eq_true, false_iff]
  intro hc
  rw [z125'] at hc
  have hd := t126_get (i := Z12) hc.2.2.2.2.2.2.1 (by simp only [smZ] at * <;> omega) (by simp only [smZ] at * <;> omega)
  try simp only [smZ] at *
  omega
def f13 : E := (.imp (.and Z20 (.and Z115 (.and Z112 (.and (.not Z113) (.and Z105 (.fn 119 Z0)))))) (.fn 126 (.pr (.fn 1 (.pr Z0 (.int 30))) Z116)))
theorem fact13 (ρ : Env) : E.B ρ f13 = true := by
  unfold f13
  rw [sm_B_imp]
  simp only [sm_B_and]
  rintro ⟨p0, p1, p2, p3, p4, p5⟩
  have g0 : E.I ρ Z116 = E.I ρ (.fn 6 (.pr Z12 (.int 1))) := by
    try simp only [smZ] at *
    obtain ⟨a3, ea3, qa3⟩ := cs_i64 ((E.I ρ Z12) + (1))
    try simp only [ea3] at *
    omega
  exact t126_step (vl p5 30 rfl) p1 (by simp only [smZ] at * <;> omega) (by simp only [smZ] at * <;> omega) (by simp only [smZ] at * <;> omega) g0
def f14 : E := (.imp (.and Z118 (.and Z115 (.not Z112))) Z119)
theorem fact14 (ρ : Env) : E.B ρ f14 = true := by
  unfold f14
  rw [sm_B_imp]
  simp only [sm_B_and]
  rintro ⟨p0, p1, p2⟩
  have g0 : E.I ρ (.fn 9 (.pr (.fn 1 (.pr Z0 (.int 30))) (.int 5))) = E.I ρ Z12 := by
    try simp only [smZ] at *
    omega
  exact t126_eq p1 g0
def f15 : E := (.imp (.and Z20 (.and Z105 Z112)) (.not (.cmp .lss Z116 (.int 0))))
theorem fact15 (ρ : Env) : E.B ρ f15 = true := by
  unfold f15
  rw [sm_B_imp]
  simp only [sm_B_and]
  rintro ⟨p0, p1, p2⟩
  try simp only [smZ] at *
  obtain ⟨a2, ea2, qa2⟩ := cs_i64 ((E.I ρ Z12) + (1))
  try simp only [ea2] at *
  omega
def f16 : E := (.imp Z118 (.fn 126 (.pr (.fn 1 (.pr Z0 (.int 31))) (.int 0))))
theorem fact16 (ρ : Env) : E.B ρ f16 = true := by
  unfold f16
  rw [sm_B_imp]
  intro p0
  exact t126_zero (Int.le_refl 0)
def f17 : E := (.imp (.and Z20 Z112) (.not (.cmp .lss (.fn 9 (.pr (.fn 1 (.pr Z0 (.int 30))) (.int 5))) Z116)))
theorem fact17 (ρ : Env) : E.B ρ f17 = true := by
  unfold f17
  rw [sm_B_imp]
  simp only [sm_B_and]
  rintro ⟨p0, p1⟩
  try simp only [smZ] at *
  obtain ⟨a2, ea2, qa2⟩ := cs_i64 ((E.I ρ Z12) + (1))
  try simp only [ea2] at *
  omega
def f18 : E := (.imp (.and Z120 (.and Z121 Z123)) Z86)
theorem fact18 (ρ : Env) : E.B ρ f18 = true := by
  unfold f18
  rw [sm_B_imp]
  simp only [sm_B_and]
  rintro ⟨p0, p1, p2⟩
  rw [sm_B_iff, sm_B_bool]
  simp only [Bool.false_eq_true, false_iff]
  intro hc
  rw [z125'] at hc
  have hd := t126_get (i := Z44) hc.2.2.2.2.2.2.2.2.1 (by simp only [smZ] at * <;> omega) (by simp only [smZ] at * <;> omega)
  try simp only [smZ] at *
  omega
def f19 : E := (.imp (.and Z120 (.and (.not Z121) (.and Z123 (.and Z125 (.and Z107 (.fn 119 Z0)))))) (.fn 126 (.pr (.fn 1 (.pr Z0 (.int 31))) Z126)))
theorem fact19 (ρ : Env) : E.B ρ f19 = true := by
  unfold f19
  rw [sm_B_imp]
  simp only [sm_B_and]
  rintro ⟨p0, p1, p2, p3, p4, p5⟩
  have g0 : E.I ρ Z126 = E.I ρ (.fn 6 (.pr Z44 (.int 1))) := by
    try simp only [smZ] at *
    obtain ⟨a3, ea3, qa3⟩ := cs_i64 ((E.I ρ Z44) + (1))
    try simp only [ea3] at *
    omega
  exact t126_step (vl p5 31 rfl) p3 (by simp only [smZ] at * <;> omega) (by simp only [smZ] at * <;> omega) (by simp only [smZ] at * <;> omega) g0
def f20 : E := (.imp (.and (.not Z120) (.and (.not (.cmp .lss (.fn 9 (.pr (.fn 1 (.pr Z0 (.int 31))) (.int 5))) Z44)) (.and Z123 (.and Z125 (.and Z119 (.and (.not Z84) (.and Z111 (.and Z109 (.and Z107 (.and Z105 (.and Z103 (.and Z101 (.and Z99 (.and Z97 Z95)))))))))))))) (.iff (.bool true) Z85))
theorem fact20 (ρ : Env) : E.B ρ f20 = true := by
  unfold f20
  rw [sm_B_imp]
  simp only [sm_B_and]
  rintro ⟨p0, p1, p2, p3, p4, p5, p6, p7, p8, p9, p10, p11, p12, p13, p14⟩
  rw [sm_B_iff, sm_B_bool]
  rw [z125']
  simp only [true_iff]
  exact ⟨(by simp only [smZ] at * <;> omega), (by simp only [smZ] at * <;> omega), (by simp only [smZ] at * <;> omega), (by simp only [smZ] at * <;> omega), (by simp only [smZ] at * <;> omega), (by simp only [smZ] at * <;> omega), p4, (by simp only [smZ] at * <;> omega), (t126_eq p3 (by simp only [smZ] at * <;> omega)), (by simp only [smZ] at * <;> omega), (by simp only [smZ] at * <;> omega), (by simp only [smZ] at * <;> omega)⟩
def f21 : E := (.imp (.and Z20 (.and Z112 Z105)) (.cmp .lss (.fn 7 (.pr (.fn 9 (.pr (.fn 1 (.pr Z0 (.int 30))) (.int 5))) Z116)) (.fn 7 (.pr (.fn 9 (.pr (.fn 1 (.pr Z0 (.int 30))) (.int 5))) Z12))))
theorem fact21 (ρ : Env) : E.B ρ f21 = true := by
  unfold f21
  rw [sm_B_imp]
  simp only [sm_B_and]
  rintro ⟨p0, p1, p2⟩
  try simp only [smZ] at *
  obtain ⟨a2, ea2, qa2⟩ := cs_i64 ((E.I ρ Z12) + (1))
  try simp only [ea2] at *
  omega
def f22 : E := (.imp Z128 (.not (.cmp .lss Z126 (.int 0))))
theorem fact22 (ρ : Env) : E.B ρ f22 = true := by
  unfold f22
  rw [sm_B_imp]
  simp only [sm_B_and]
  rintro ⟨p0, p1, p2⟩
  try simp only [smZ] at *
  obtain ⟨a2, ea2, qa2⟩ := cs_i64 ((E.I ρ Z44) + (1))
  try simp only [ea2] at *
  omega
def f23 : E := (.imp (.and Z20 Z112) (.not (.cmp .lss (.fn 7 (.pr (.fn 9 (.pr (.fn 1 (.pr Z0 (.int 30))) (.int 5))) Z116)) (.int 0))))
theorem fact23 (ρ : Env) : E.B ρ f23 = true := by
  unfold f23
  rw [sm_B_imp]
  simp only [sm_B_and]
  rintro ⟨p0, p1⟩
  try simp only [smZ] at *
  obtain ⟨a2, ea2, qa2⟩ := cs_i64 ((E.I ρ Z12) + (1))
  try simp only [ea2] at *
  omega
def f24 : E := (.imp Z129 (.not (.cmp .lss (.fn 9 (.pr (.fn 1 (.pr Z0 (.int 31))) (.int 5))) Z126)))
theorem fact24 (ρ : Env) : E.B ρ f24 = true := by
  unfold f24
  rw [sm_B_imp]
  simp only [sm_B_and]
  rintro ⟨p0, p1⟩
  try simp only [smZ] at *
  obtain ⟨a2, ea2, qa2⟩ := cs_i64 ((E.I ρ Z44) + (1))
  try simp only [ea2] at *
  omega
def f25 : E := (.imp Z128 (.cmp .lss (.fn 7 (.pr (.fn 9 (.pr (.fn 1 (.pr Z0 (.int 31))) (.int 5))) Z126)) (.fn 7 (.pr (.fn 9 (.pr (.fn 1 (.pr Z0 (.int 31))) (.int 5))) Z44))))
theorem fact25 (ρ : Env) : E.B ρ f25 = true := by
  unfold f25
  rw [sm_B_imp]
  simp only [sm_B_and]
  rintro ⟨p0, p1, p2⟩
  try simp only [smZ] at *
  obtain ⟨a2, ea2, qa2⟩ := cs_i64 ((E.I ρ Z44) + (1))
  try simp only [ea2] at *
  omega
def f26 : E := (.imp Z129 (.not (.cmp .lss (.fn 7 (.pr (.fn 9 (.pr (.fn 1 (.pr Z0 (.int 31))) (.int 5))) Z126)) (.int 0))))
theorem fact26 (ρ : Env) : E.B ρ f26 = true := by
  unfold f26
  rw [sm_B_imp]
  simp only [sm_B_and]
  rintro ⟨p0, p1⟩
  try simp only [smZ] at *
  obtain ⟨a2, ea2, qa2⟩ := cs_i64 ((E.I ρ Z44) + (1))
  try simp only [ea2] at *
  omega
def facts : List E := [f0, f1, f2, f3, f4, f5, f6, f7, f8, f9, f10, f11, f12, f13, f14, f15, f16, f17, f18, f19, f20, f21, f22, f23, f24, f25, f26]
theorem facts_ok : ∀ e ∈ facts, ∀ ρ : Env, E.B ρ e = true := (all_cons fact0 (all_cons fact1 (all_cons fact2 (all_cons fact3 (all_cons fact4 (all_cons fact5 (all_cons fact6 (all_cons fact7 (all_cons fact8 (all_cons fact9 (all_cons fact10 (all_cons fact11 (all_cons fact12 (all_cons fact13 (all_cons fact14 (all_cons fact15 (all_cons fact16 (all_cons fact17 (all_cons fact18 (all_cons fact19 (all_cons fact20 (all_cons fact21 (all_cons fact22 (all_cons fact23 (all_cons fact24 (all_cons fact25 (all_cons fact26 all_nil)))))))))))))))))))))))))))
end p16
theorem spec16_0 : NatOk Try.prog (specNat (spSh)) :=
  spec_of_check good (facts := p16.facts) p16.facts_ok (anns := annSh) (plainAnns_ok _ (by kernel_rfl)) (nats := natl17) natl17_ok (n := 3000) (by kernel_rfl)
def natl18 : List Nat1 := specNat (spSh) :: natl17
theorem natl18_ok : ∀ x ∈ natl18, NatOk Try.prog x := by
  intro x hx
  rcases List.mem_cons.1 hx with rfl | hx
  · exact spec16_0
  exact natl17_ok x hx

namespace p17
def f0 : E := (.imp (.and (.iff Z130 Z85) (.not Z130)) Z132)
theorem fact0 (ρ : Env) : E.B ρ f0 = true := by
  unfold f0
  rw [sm_B_imp]
  simp only [sm_B_and]
  rintro ⟨p0, p1⟩
  rw [sm_B_iff, sm_B_bool]
  simp only [Bool.false_eq_true, false_iff]
  intro hc
  rw [z127] at hc
  have g := p0
  have r := p1
  rw [sm_B_iff] at g
  rw [sm_B_not] at r
  exact r (g.2 hc.2.1)
def f1 : E := (.imp Z133 Z137)
theorem fact1 (ρ : Env) : E.B ρ f1 = true := by
  unfold f1
  rw [sm_B_imp]
  intro p0
  try simp only [smZ] at *
  omega
def f2 : E := (.imp Z136 Z132)
theorem fact2 (ρ : Env) : E.B ρ f2 = true := by
  unfold f2
  rw [sm_B_imp]
  simp only [sm_B_and]
  rintro ⟨p0, p1⟩
  rw [sm_B_iff, sm_B_bool]
  simp only [Bool.false_eq_true, false_iff]
  intro hc
  rw [z127] at hc
  simp only [smZ] at *
  omega
def f3 : E := (.imp Z134 Z137)
theorem fact3 (ρ : Env) : E.B ρ f3 = true := by
  unfold f3
  rw [sm_B_imp]
  intro p0
  try simp only [smZ] at *
  omega
def f4 : E := (.imp (.and (.iff Z130 Z85) Z130) Z85)
theorem fact4 (ρ : Env) : E.B ρ f4 = true := by
  unfold f4
  rw [sm_B_imp]
  simp only [sm_B_and]
  rintro ⟨p0, p1⟩
  simp only [sm_B_iff, sm_B_not] at *
  simp_all
def f5 : E := (.imp Z135 (.fn 128 (.pr Z138 (.int 0))))
theorem fact5 (ρ : Env) : E.B ρ f5 = true := by
  unfold f5
  rw [sm_B_imp]
  intro p0
  exact t128_zero (Int.le_refl 0)
def f6 : E := (.imp Z134 (.fn 128 (.pr Z138 (.int 0))))
theorem fact6 (ρ : Env) : E.B ρ f6 = true := by
  unfold f6
  rw [sm_B_imp]
  intro p0
  exact t128_zero (Int.le_refl 0)
def f7 : E := (.imp (.and Z139 (.and Z140 Z143)) Z132)
theorem fact7 (ρ : Env) : E.B ρ f7 = true := by
  unfold f7
  rw [sm_B_imp]
  simp only [sm_B_and]
  rintro ⟨p0, p1, p2, p3, p4⟩
  rw [sm_B_iff, sm_B_bool]
  simp only [Bool.false_eq_true, false_iff]
  exact t122_not (i := Z60) p4 (by simp only [smZ] at * <;> omega) (by simp only [smZ] at * <;> omega) (Or.inr (by simp only [smZ] at * <;> omega))
def f8 : E := (.imp (.and Z139 (.and (.not Z144) (.and (.not Z140) (.and Z142 (.and Z145 Z50))))) (.fn 128 (.pr Z44 Z146)))
theorem fact8 (ρ : Env) : E.B ρ f8 = true := by
  unfold f8
  rw [sm_B_imp]
  simp only [sm_B_and]
  rintro ⟨p0, p1, p2, p3, p4, p5, p6, p7⟩
  have g0 : E.I ρ Z146 = E.I ρ (.fn 6 (.pr Z60 (.int 1))) := by
    try simp only [smZ] at *
    obtain ⟨a4, ea4, qa4⟩ := cs_i64 ((E.I ρ Z60) + (1))
    try simp only [ea4] at *
    omega
  exact t128_step p4 (by simp only [smZ] at * <;> omega) (by simp only [smZ] at * <;> omega) (by simp only [smZ] at * <;> omega) (by simp only [smZ] at * <;> omega) g0
def f9 : E := (.imp (.and Z139 (.and Z144 Z143)) Z132)
theorem fact9 (ρ : Env) : E.B ρ f9 = true := by
  unfold f9
  rw [sm_B_imp]
  simp only [sm_B_and]
  rintro ⟨p0, p1, p2, p3, p4⟩
  rw [sm_B_iff, sm_B_bool]
  simp only [Bool.false_eq_true, false_iff]
  exact t122_not (i := Z60) p4 (by simp only [smZ] at * <;> omega) (by simp only [smZ] at * <;> omega) (Or.inl (by simp only [smZ] at * <;> omega))
def f10 : E := (.imp (.and (.not Z139) (.and (.not (.cmp .lss Z48 Z60)) (.and Z145 Z61))) Z47)
theorem fact10 (ρ : Env) : E.B ρ f10 = true := by
  unfold f10
  rw [sm_B_imp]
  simp only [sm_B_and]
  rintro ⟨p0, p1, p2, p3, p4⟩
  exact t122_end p2 p4 (by simp only [smZ] at * <;> omega)
def f11 : E := (.imp Z147 (.not (.cmp .lss Z146 (.int 0))))
theorem fact11 (ρ : Env) : E.B ρ f11 = true := by
  unfold f11
  rw [sm_B_imp]
  simp only [sm_B_and]
  rintro ⟨p0, p1, p2, p3, p4⟩
  try simp only [smZ] at *
  obtain ⟨a3, ea3, qa3⟩ := cs_i64 ((E.I ρ Z60) + (1))
  try simp only [ea3] at *
  omega
def f12 : E := (.imp (.and (.not Z139) (.and (.not (.cmp .lss (.int 100000) (.var 21))) (.and (.not (.cmp .lss (.var 21) (.int 1))) (.and (.cmp .eql (.var 21) (.fn 0 Z62)) (.and (.fn 123 (.pr Z62 Z0)) (.and (.not (.cmp .lss Z48 Z60)) (.and Z145 (.and Z85 (.and Z137 Z61))))))))) (.iff (.not (.cmp .lss (.int 65535) (.var 21))) Z131))
theorem fact12 (ρ : Env) : E.B ρ f12 = true := by
  unfold f12
  rw [sm_B_imp]
  simp only [sm_B_and]
  rintro ⟨p0, p1, p2, p3, p4, p5, p6, p7, p8, p9, p10⟩
  have h122 := t122_end p6 p10 (by simp only [smZ] at * <;> omega)
  rw [sm_B_iff, t127_len p4]
  constructor
  · intro g
    exact ⟨(by simp only [smZ] at * <;> omega), p7, h122, (by simp only [smZ] at * <;> omega)⟩
  · intro g
    have g4 := g.2.2.2
    clear g
    simp only [smZ] at *
    omega
def f13 : E := (.imp Z147 (.not (.cmp .lss Z48 Z146)))
theorem fact13 (ρ : Env) : E.B ρ f13 = true := by
  unfold f13
  rw [sm_B_imp]
  simp only [sm_B_and]
  rintro ⟨p0, p1, p2, p3, p4⟩
  try simp only [smZ] at *
  obtain ⟨a3, ea3, qa3⟩ := cs_i64 ((E.I ρ Z60) + (1))
  try simp only [ea3] at *
  omega
def f14 : E := (.imp Z147 (.cmp .lss (.fn 7 (.pr Z48 Z146)) (.fn 7 (.pr Z48 Z60))))
theorem fact14 (ρ : Env) : E.B ρ f14 = true := by
  unfold f14
  rw [sm_B_imp]
  simp only [sm_B_and]
  rintro ⟨p0, p1, p2, p3, p4⟩
  try simp only [smZ] at *
  obtain ⟨a3, ea3, qa3⟩ := cs_i64 ((E.I ρ Z60) + (1))
  try simp only [ea3] at *
  omega
def f15 : E := (.imp Z147 (.not (.cmp .lss (.fn 7 (.pr Z48 Z146)) (.int 0))))
theorem fact15 (ρ : Env) : E.B ρ f15 = true := by
  unfold f15
  rw [sm_B_imp]
  simp only [sm_B_and]
  rintro ⟨p0, p1, p2, p3, p4⟩
  try simp only [smZ] at *
  obtain ⟨a3, ea3, qa3⟩ := cs_i64 ((E.I ρ Z60) + (1))
  try simp only [ea3] at *
  omega
def facts : List E := [f0, f1, f2, f3, f4, f5, f6, f7, f8, f9, f10, f11, f12, f13, f14, f15]
theorem facts_ok : ∀ e ∈ facts, ∀ ρ : Env, E.B ρ e = true := (all_cons fact0 (all_cons fact1 (all_cons fact2 (all_cons fact3 (all_cons fact4 (all_cons fact5 (all_cons fact6 (all_cons fact7 (all_cons fact8 (all_cons fact9 (all_cons fact10 (all_cons fact11 (all_cons fact12 (all_cons fact13 (all_cons fact14 (all_cons fact15 all_nil))))))))))))))))
end p17
theorem spec17_0 : NatOk Try.prog (specNat (spVa)) :=
  spec_of_check good (facts := p17.facts) p17.facts_ok (anns := annVa) (plainAnns_ok _ (by kernel_rfl)) (nats := natl18) natl18_ok (n := 3000) (by kernel_rfl)
def natl19 : List Nat1 := specNat (spVa) :: natl18
theorem natl19_ok : ∀ x ∈ natl19, NatOk Try.prog x := by
  intro x hx
  rcases List.mem_cons.1 hx with rfl | hx
  · exact spec17_0
  exact natl18_ok x hx

namespace p18
def f0 : E := (.imp (.and Z149 (.and Z151 (.and Z152 (.and Z153 Z154)))) (.not Z131))
theorem fact0 (ρ : Env) : E.B ρ f0 = true := by
  unfold f0
  rw [sm_B_imp]
  simp only [sm_B_and]
  rintro ⟨p0, p1, p2, p3, p4⟩
  rw [sm_B_not]
  intro hc
  rw [t127_len (t123_of p3)] at hc
  have g1 := hc.1
  have g4 := hc.2.2.2
  clear hc
  simp only [smZ] at *
  omega
def f1 : E := (.imp (.and Z149 (.and Z151 (.and Z152 (.and Z153 (.and (.not (.var 4)) (.and Z134 (.not Z154))))))) Z131)
theorem fact1 (ρ : Env) : E.B ρ f1 = true := by
  unfold f1
  rw [sm_B_imp]
  simp only [sm_B_and]
  rintro ⟨p0, p1, p2, p3, p4, p5, p6⟩
  have q := t_ok p3 (by have q := p4; rwa [sm_B_not] at q)
  rw [t127_len (t123_of p3)]
  exact ⟨(by simp only [smZ] at * <;> omega), q.1, q.2, (by simp only [smZ] at * <;> omega)⟩
def f2 : E := (.imp (.and Z149 (.and Z151 (.and Z152 (.and Z153 (.and (.not (.var 4)) (.and Z133 (.not Z154))))))) Z131)
theorem fact2 (ρ : Env) : E.B ρ f2 = true := by
  unfold f2
  rw [sm_B_imp]
  simp only [sm_B_and]
  rintro ⟨p0, p1, p2, p3, p4, p5, p6⟩
  have q := t_ok p3 (by have q := p4; rwa [sm_B_not] at q)
  rw [t127_len (t123_of p3)]
  exact ⟨(by simp only [smZ] at * <;> omega), q.1, q.2, (by simp only [smZ] at * <;> omega)⟩
def f3 : E := (.imp (.and Z153 Z136) (.not Z131))
theorem fact3 (ρ : Env) : E.B ρ f3 = true := by
  unfold f3
  rw [sm_B_imp]
  simp only [sm_B_and]
  rintro ⟨p0, p1, p2⟩
  rw [sm_B_not]
  intro hc
  rw [t127_len (t123_of p0)] at hc
  have g1 := hc.1
  have g4 := hc.2.2.2
  clear hc
  simp only [smZ] at *
  omega
def f4 : E := (.imp (.and Z153 (.var 4)) (.not Z131))
theorem fact4 (ρ : Env) : E.B ρ f4 = true := by
  unfold f4
  rw [sm_B_imp]
  simp only [sm_B_and]
  rintro ⟨p0, p1⟩
  rw [sm_B_not]
  exact t_bad p0 p1
def f5 : E := (.imp Z153 (.fn 123 (.pr Z130 Z0)))
theorem fact5 (ρ : Env) : E.B ρ f5 = true := by
  unfold f5
  rw [sm_B_imp]
  intro p0
  exact t123_of p0
def facts : List E := [f0, f1, f2, f3, f4, f5]
theorem facts_ok : ∀ e ∈ facts, ∀ ρ : Env, E.B ρ e = true := (all_cons fact0 (all_cons fact1 (all_cons fact2 (all_cons fact3 (all_cons fact4 (all_cons fact5 all_nil))))))
end p18
theorem spec18_0 : NatOk Try.prog (specNat (spEn)) :=
  spec_of_check good (facts := p18.facts) p18.facts_ok (anns := []) (plainAnns_ok _ (by kernel_rfl)) (nats := natl19) natl19_ok (n := 3000) (by kernel_rfl)
def natl20 : List Nat1 := specNat (spEn) :: natl19
theorem natl20_ok : ∀ x ∈ natl20, NatOk Try.prog x := by
  intro x hx
  rcases List.mem_cons.1 hx with rfl | hx
  · exact spec18_0
  exact natl19_ok x hx

namespace p19
def f0 : E := (.imp Z156 (.cmp .eql (.fn 114 (.pr Z0 (.int 0))) (.int 0)))
theorem fact0 (ρ : Env) : E.B ρ f0 = true := by
  unfold f0
  rw [sm_B_imp]
  intro p0
  have ht0 := @tg_nn ρ Z0 (.int 0)
  have hu0 := tg_zero (ρ := ρ) (l := Z0) (i := (.int 0)) (Int.le_refl 0)
  have hg0 := tg_size (ρ := ρ) (l := Z0) (i := (.int 0))
  try simp only [smZ] at *
  omega
def f1 : E := (.imp (.and Z157 (.and (.not (.cmp .lss Z21 (.int 0))) (.and Z158 (.and Z156 (.fn 118 (.pr (.int 2) Z0)))))) (.cmp .eql (.ar .add .i64 Z12 (.fn 9 (.pr (.fn 1 (.pr Z0 (.fn 6 (.pr (.fn 8 (.pr Z21 (.int 5))) (.int 4))))) (.int 2)))) (.fn 114 (.pr Z0 Z159))))
theorem fact1 (ρ : Env) : E.B ρ f1 = true := by
  unfold f1
  rw [sm_B_imp]
  simp only [sm_B_and]
  rintro ⟨p0, p1, p2, p3, p4⟩
  have g0 : E.I ρ Z159 = E.I ρ (.fn 6 (.pr Z21 (.int 1))) := by
    have hr0 := @rows_nn ρ Z0 (5)
    have hr1 := @rows_nn ρ (.fn 1 (.pr Z0 (.fn 6 (.pr (.fn 8 (.pr Z21 (.int 5))) (.int 4))))) (2)
    have ht0 := @tg_nn ρ Z0 Z21
    have ht1 := @tg_nn ρ Z0 Z159
    have hs0 := rows_size (ρ := ρ) (l := Z0) (w := (5))
    have hg0 := tg_size (ρ := ρ) (l := Z0) (i := Z21)
    have hg1 := tg_size (ρ := ρ) (l := Z0) (i := Z159)
    have hm0 := tg_le (i := Z21) p4 (by simp only [smZ] at * <;> omega) (by simp only [smZ] at * <;> omega)
    have hn0 := rows_nn (ρ := ρ) (l := (.fn 1 (.pr Z0 (.fn 6 (.pr (.fn 8 (.pr Z21 (.int 5))) (.int 4)))))) (w := 2)
    have ho0 := tg_nn (ρ := ρ) (l := Z0) (i := Z21)
    try simp only [smZ] at *
    obtain ⟨a5, ea5, qa5⟩ := cs_i64 ((E.I ρ Z21) + (1))
    try simp only [ea5] at *
    omega
  have g1 := tg_step (i := Z21) (j := Z159) p4 (by simp only [smZ] at * <;> omega) (by simp only [smZ] at * <;> omega) g0
  have hr0 := @rows_nn ρ Z0 (5)
  have hr1 := @rows_nn ρ (.fn 1 (.pr Z0 (.fn 6 (.pr (.fn 8 (.pr Z21 (.int 5))) (.int 4))))) (2)
  have ht0 := @tg_nn ρ Z0 Z21
  have ht1 := @tg_nn ρ Z0 Z159
  have hs0 := rows_size (ρ := ρ) (l := Z0) (w := (5))
  have hg0 := tg_size (ρ := ρ) (l := Z0) (i := Z21)
  have hg1 := tg_size (ρ := ρ) (l := Z0) (i := Z159)
  have hm0 := tg_le (i := Z21) p4 (by simp only [smZ] at * <;> omega) (by simp only [smZ] at * <;> omega)
  have hn0 := rows_nn (ρ := ρ) (l := (.fn 1 (.pr Z0 (.fn 6 (.pr (.fn 8 (.pr Z21 (.int 5))) (.int 4)))))) (w := 2)
  have ho0 := tg_nn (ρ := ρ) (l := Z0) (i := Z21)
  try simp only [smZ] at *
  obtain ⟨a7, ea7, qa7⟩ := cs_i64 ((E.I ρ Z12) + (E.I ρ (.fn 9 (.pr (.fn 1 (.pr Z0 (.fn 6 (.pr (.fn 8 (.pr Z21 (.int 5))) (.int 4))))) (.int 2)))))
  try simp only [ea7] at *
  omega
def f2 : E := (.imp (.and (.not Z157) (.and (.not (.cmp .lss (.fn 9 (.pr Z0 (.int 5))) Z21)) Z158)) (.cmp .eql Z12 (.fn 114 (.pr Z0 (.fn 9 (.pr Z0 (.int 5)))))))
theorem fact2 (ρ : Env) : E.B ρ f2 = true := by
  unfold f2
  rw [sm_B_imp]
  simp only [sm_B_and]
  rintro ⟨p0, p1, p2⟩
  have hr0 := @rows_nn ρ Z0 (5)
  have ht0 := @tg_nn ρ Z0 Z21
  have ht1 := @tg_nn ρ Z0 (.fn 9 (.pr Z0 (.int 5)))
  have hz00 := tg_mono (ρ := ρ) (l := Z0) (i := (.fn 9 (.pr Z0 (.int 5)))) (j := Z21) (by simp only [smZ] at * <;> omega)
  have hk10 := tg_mono (ρ := ρ) (l := Z0) (i := Z21) (j := (.fn 9 (.pr Z0 (.int 5)))) (by simp only [smZ] at * <;> omega)
  try simp only [smZ] at *
  omega
def f3 : E := (.imp Z160 (.not (.cmp .lss Z159 (.int 0))))
theorem fact3 (ρ : Env) : E.B ρ f3 = true := by
  unfold f3
  rw [sm_B_imp]
  simp only [sm_B_and]
  rintro ⟨p0, p1, p2, p3⟩
  have hr0 := @rows_nn ρ Z0 (5)
  have hs0 := rows_size (ρ := ρ) (l := Z0) (w := (5))
  have hm2 := tg_le (i := Z21) p1 (by simp only [smZ] at * <;> omega) (by simp only [smZ] at * <;> omega)
  have hn2 := rows_nn (ρ := ρ) (l := (.fn 1 (.pr Z0 (.fn 6 (.pr (.fn 8 (.pr Z21 (.int 5))) (.int 4)))))) (w := 2)
  have ho2 := tg_nn (ρ := ρ) (l := Z0) (i := Z21)
  try simp only [smZ] at *
  obtain ⟨a3, ea3, qa3⟩ := cs_i64 ((E.I ρ Z21) + (1))
  try simp only [ea3] at *
  omega
def f4 : E := (.imp Z160 (.not (.cmp .lss (.fn 9 (.pr Z0 (.int 5))) Z159)))
theorem fact4 (ρ : Env) : E.B ρ f4 = true := by
  unfold f4
  rw [sm_B_imp]
  simp only [sm_B_and]
  rintro ⟨p0, p1, p2, p3⟩
  try simp only [smZ] at *
  obtain ⟨a3, ea3, qa3⟩ := cs_i64 ((E.I ρ Z21) + (1))
  try simp only [ea3] at *
  omega
def f5 : E := (.imp Z160 (.cmp .lss (.fn 7 (.pr (.fn 9 (.pr Z0 (.int 5))) Z159)) (.fn 7 (.pr (.fn 9 (.pr Z0 (.int 5))) Z21))))
theorem fact5 (ρ : Env) : E.B ρ f5 = true := by
  unfold f5
  rw [sm_B_imp]
  simp only [sm_B_and]
  rintro ⟨p0, p1, p2, p3⟩
  have hr0 := @rows_nn ρ Z0 (5)
  have hs0 := rows_size (ρ := ρ) (l := Z0) (w := (5))
  have hm2 := tg_le (i := Z21) p1 (by simp only [smZ] at * <;> omega) (by simp only [smZ] at * <;> omega)
  have hn2 := rows_nn (ρ := ρ) (l := (.fn 1 (.pr Z0 (.fn 6 (.pr (.fn 8 (.pr Z21 (.int 5))) (.int 4)))))) (w := 2)
  have ho2 := tg_nn (ρ := ρ) (l := Z0) (i := Z21)
  try simp only [smZ] at *
  obtain ⟨a3, ea3, qa3⟩ := cs_i64 ((E.I ρ Z21) + (1))
  try simp only [ea3] at *
  omega
def f6 : E := (.imp Z160 (.not (.cmp .lss (.fn 7 (.pr (.fn 9 (.pr Z0 (.int 5))) Z159)) (.int 0))))
theorem fact6 (ρ : Env) : E.B ρ f6 = true := by
  unfold f6
  rw [sm_B_imp]
  simp only [sm_B_and]
  rintro ⟨p0, p1, p2, p3⟩
  try simp only [smZ] at *
  obtain ⟨a3, ea3, qa3⟩ := cs_i64 ((E.I ρ Z21) + (1))
  try simp only [ea3] at *
  omega
def facts : List E := [f0, f1, f2, f3, f4, f5, f6]
theorem facts_ok : ∀ e ∈ facts, ∀ ρ : Env, E.B ρ e = true := (all_cons fact0 (all_cons fact1 (all_cons fact2 (all_cons fact3 (all_cons fact4 (all_cons fact5 (all_cons fact6 all_nil)))))))
end p19
theorem spec19_0 : NatOk Try.prog (specNat (spTg)) :=
  spec_of_check good (facts := p19.facts) p19.facts_ok (anns := annTg) (plainAnns_ok _ (by kernel_rfl)) (nats := natl20) natl20_ok (n := 3000) (by kernel_rfl)
def natl21 : List Nat1 := specNat (spTg) :: natl20
theorem natl21_ok : ∀ x ∈ natl21, NatOk Try.prog x := by
  intro x hx
  rcases List.mem_cons.1 hx with rfl | hx
  · exact spec19_0
  exact natl20_ok x hx

namespace p20
def f0 : E := (.imp (.fn 119 Z0) (.fn 118 (.pr (.int 2) (.fn 1 (.pr Z0 (.int 30))))))
theorem fact0 (ρ : Env) : E.B ρ f0 = true := by
  unfold f0
  rw [sm_B_imp]
  intro p0
  exact vl p0 30 rfl
def f1 : E := (.imp Z166 (.iff (.bool false) Z167))
theorem fact1 (ρ : Env) : E.B ρ f1 = true := by
  unfold f1
  rw [sm_B_imp]
  intro p0
  rw [sm_B_iff, sm_B_bool]
  simp only [Bool.false_eq_true, false_iff]
  intro hc
  rw [z112'] at hc
  try simp only [smZ] at *
  omega
def f2 : E := (.imp Z156 (.not (.cmp .lss (.int 1048577) (.fn 117 (.fn 1 (.pr Z0 (.int 30)))))))
theorem fact2 (ρ : Env) : E.B ρ f2 = true := by
  unfold f2
  rw [sm_B_imp]
  intro p0
  have g0 := v_size (ρ := ρ) (X := Z0) (a := (.fn 1 (.pr Z0 (.int 30)))) 30 rfl
  try simp only [smZ] at *
  omega
def f3 : E := (.imp (.fn 119 Z0) (.fn 118 (.pr (.int 2) (.fn 1 (.pr Z0 (.int 31))))))
theorem fact3 (ρ : Env) : E.B ρ f3 = true := by
  unfold f3
  rw [sm_B_imp]
  intro p0
  exact vl p0 31 rfl
def f4 : E := (.imp (.and Z168 (.cmp .lss (.int 200) Z130)) (.iff (.bool false) Z167))
theorem fact4 (ρ : Env) : E.B ρ f4 = true := by
  unfold f4
  rw [sm_B_imp]
  simp only [sm_B_and]
  rintro ⟨p0, p1⟩
  rw [sm_B_iff, sm_B_bool]
  simp only [Bool.false_eq_true, false_iff]
  intro hc
  rw [z112'] at hc
  try simp only [smZ] at *
  omega
def f5 : E := (.imp Z156 (.not (.cmp .lss (.int 1048577) (.fn 117 (.fn 1 (.pr Z0 (.int 31)))))))
theorem fact5 (ρ : Env) : E.B ρ f5 = true := by
  unfold f5
  rw [sm_B_imp]
  intro p0
  have g0 := v_size (ρ := ρ) (X := Z0) (a := (.fn 1 (.pr Z0 (.int 31)))) 31 rfl
  try simp only [smZ] at *
  omega
def f6 : E := (.imp (.and (.not Z166) (.and Z168 (.and (.not (.cmp .lss (.int 200) Z130)) (.cmp .eql Z138 (.fn 114 (.pr (.fn 1 (.pr Z0 (.int 31))) (.fn 9 (.pr (.fn 1 (.pr Z0 (.int 31))) (.int 5))))))))) (.iff (.not (.cmp .lss (.int 200) Z138)) Z167))
theorem fact6 (ρ : Env) : E.B ρ f6 = true := by
  unfold f6
  rw [sm_B_imp]
  simp only [sm_B_and]
  rintro ⟨p0, p1, p2, p3⟩
  try simp only [smZ] at *
  omega
def facts : List E := [f0, f1, f2, f3, f4, f5, f6]
theorem facts_ok : ∀ e ∈ facts, ∀ ρ : Env, E.B ρ e = true := (all_cons fact0 (all_cons fact1 (all_cons fact2 (all_cons fact3 (all_cons fact4 (all_cons fact5 (all_cons fact6 all_nil)))))))
end p20
theorem spec20_0 : NatOk Try.prog (specNat (spL)) :=
  spec_of_check good (facts := p20.facts) p20.facts_ok (anns := []) (plainAnns_ok _ (by kernel_rfl)) (nats := natl21) natl21_ok (n := 3000) (by kernel_rfl)
def natl22 : List Nat1 := specNat (spL) :: natl21
theorem natl22_ok : ∀ x ∈ natl22, NatOk Try.prog x := by
  intro x hx
  rcases List.mem_cons.1 hx with rfl | hx
  · exact spec20_0
  exact natl21_ok x hx

namespace m
def f0 : E := (.imp (.and (.iff Z130 Z167) Z130) Z167)
theorem fact0 (ρ : Env) : E.B ρ f0 = true := by
  unfold f0
  rw [sm_B_imp]
  simp only [sm_B_and]
  rintro ⟨p0, p1⟩
  simp only [sm_B_iff, sm_B_not] at *
  simp_all
def f1 : E := (.imp Z169 Z47)
theorem fact1 (ρ : Env) : E.B ρ f1 = true := by
  unfold f1
  rw [sm_B_imp]
  simp only [sm_B_and]
  rintro ⟨p0, p1, p2⟩
  simp only [sm_B_iff, sm_B_not] at *
  simp_all
def f2 : E := (.imp (.and Z131 (.iff (.var 5) Z131)) (.var 5))
theorem fact2 (ρ : Env) : E.B ρ f2 = true := by
  unfold f2
  rw [sm_B_imp]
  simp only [sm_B_and]
  rintro ⟨p0, p1⟩
  simp only [sm_B_iff, sm_B_not] at *
  have h105 := @t105_self ρ Z0
  simp_all
def f3 : E := (.imp Z131 Z47)
theorem fact3 (ρ : Env) : E.B ρ f3 = true := by
  unfold f3
  rw [sm_B_imp]
  intro p0
  have h := p0
  rw [z127] at h
  exact h.2.2.1
def f4 : E := (.imp Z169 (.seq (.str ⟨#[]⟩) (.fn 41 (.var 3))))
theorem fact4 (ρ : Env) : E.B ρ f4 = true := by
  unfold f4
  rw [sm_B_imp]
  simp only [sm_B_and]
  rintro ⟨p0, p1, p2⟩
  simp only [sm_B_iff, sm_B_not] at *
  simp_all
def f5 : E := (.imp Z169 (.not (.seq (.str ⟨#[]⟩) (.fn 41 (.var 3)))))
theorem fact5 (ρ : Env) : E.B ρ f5 = true := by
  unfold f5
  rw [sm_B_imp]
  simp only [sm_B_and]
  rintro ⟨p0, p1, p2⟩
  simp only [sm_B_iff, sm_B_not] at *
  simp_all
def f6 : E := (.imp Z169 (.not (.fn 123 (.pr (.var 3) Z0))))
theorem fact6 (ρ : Env) : E.B ρ f6 = true := by
  unfold f6
  rw [sm_B_imp]
  simp only [sm_B_and]
  rintro ⟨p0, p1, p2⟩
  simp only [sm_B_iff, sm_B_not] at *
  simp_all
def f7 : E := (.imp (.and (.fn 123 (.pr Z138 Z0)) (.fn 123 (.pr (.var 6) Z0))) (.seq (.fn 41 Z138) (.fn 41 (.var 6))))
theorem fact7 (ρ : Env) : E.B ρ f7 = true := by
  unfold f7
  rw [sm_B_imp]
  simp only [sm_B_and]
  rintro ⟨p0, p1⟩
  exact t_seq p0 p1
def facts : List E := [f0, f1, f2, f3, f4, f5, f6, f7]
theorem facts_ok : ∀ e ∈ facts, ∀ ρ : Env, E.B ρ e = true := (all_cons fact0 (all_cons fact1 (all_cons fact2 (all_cons fact3 (all_cons fact4 (all_cons fact5 (all_cons fact6 (all_cons fact7 all_nil))))))))
end m
theorem reckoned : withTab Try.prog (fun tb => checkAll outTrue (run Try.prog (tb.plus m.facts [] natl22) 3000 (.call 5 argsE) .nil (varSt 1 pcE0) SX.one)) = true := by kernel_rfl

theorem walk {H : Type} (W : World) (base : Nat) (enc : TypeId × Value → H) (v0 : Value) (d0 : DataW H) (p0 : List MemPlace)
    (o0 : Value.okWide Try.prog W .any base 45 v0) (h0 : DataW.Trod enc Try.prog W 0 (fun _ => true) true 45 v0 d0 p0)
    (bk : Rows.uptoBulkAll [d0] ≤ 1048576) :
    Calls Try.prog 5 #[v0] W fun e W' => e = .returned (.bool true) ∧ Below W.heap.size W W' := by
  obtain ⟨x0, rfl, l0, k0, w0, s0⟩ := open_row bulkOk (n := 9) (ks := kV) Try.underlying45 (by kernel_rfl) o0 h0

  refine true_of_check2 good (facts := m.facts) m.facts_ok (anns := []) (plainAnns_ok _ (by kernel_rfl)) natl22_ok (vs := [.lst x0]) (pc := pcE0) reckoned ?_ W ⟨⟨trivial, trivial, trivial, trivial, trivial, trivial, trivial, trivial, k0 8 _ rfl, k0 9 _ rfl, trivial, trivial, trivial, trivial, trivial, trivial, trivial, trivial, trivial, trivial, trivial, trivial, k0 22 _ rfl, k0 23 _ rfl, trivial, trivial, trivial, trivial, trivial, k0 29 _ rfl, k0 30 _ rfl, k0 31 _ rfl, k0 32 _ rfl, k0 33 _ rfl, trivial, trivial, trivial, trivial, trivial, trivial, trivial, trivial, k0 42 _ rfl, trivial⟩, trivial⟩
  unfold pcE0
  try simp only [u64R, i64R, List.cons_append, List.nil_append]
  repeat' (refine pc_cons ?_ ?_)
  all_goals first
    | exact pc_nil
    | (exact ty_view l0 w0)
    | (exact sz_view (us := x0) (by simp only [Rows.uptoBulkAll] at bk; omega))
    | (first | fail | skip; done)
    | (simp only [eLe, eLt, eV, Env.of, sm_I_int, sm_I_var, sm_B_lss, sm_B_not, getD_cons_zero, getD_cons_succ, toI_int]; omega)

theorem contract (H : Type) (enc : TypeId × Value → H) (W : World) (base : Nat) (args : Array Value) (ds gs : List (DataW H)) (before : List MemPlace)
    (hval0 : ∀ (j : Nat) t v, Try.f5.params[j]? = some t → args[j]? = some v → Value.okWide Try.prog W .any base t v)
    (hW : DataW.Whole enc Try.prog Try.f5.params.toList Rows.viewEncodesSpec.vars false W args.toList ds gs before) (hk : Rows.uptoSmall H (ds ++ gs) = true) :
    Calls Try.prog 5 args W fun e W' => ∃ v, e = .returned v ∧ Rows.viewEncodesSpec.post enc Try.prog Try.f5 false true false false W args v W' := by
  have hval : ∀ (j : Nat) t v, Try.f5.params[j]? = some t → args[j]? = some v → Value.okWide Try.prog W .any base t v := hval0
  have hW' := hW
  obtain ⟨p, q, hA0, hV, rfl, hfz, hnd⟩ := hW
  have hA : DataW.TrodAll enc Try.prog W 0 (fun _ => true) true Try.f5.params.toList args.toList ds p := hA0
  rw [Try.params5] at hA hval
  obtain ⟨v0, vs0, d0, ds0, p0, q0, hargs, rfl, rfl, h0, r0⟩ := trodAll_cons hA
  obtain ⟨rfl, rfl, rfl⟩ := trodAll_nil r0
  obtain rfl : args = #[v0] := by cases args; simp_all
  obtain ⟨rfl, rfl⟩ := trodVars_none hV
  have lt0 : ∀ x ∈ p0, x.block < W.heap.size := by obtain ⟨m, hm⟩ := h0; exact DataW.trod_lt m _ _ _ hm
  have o0 := hval 0 45 v0 rfl rfl
  clear hA0 hval0
  have bk : Rows.uptoBulkAll [d0] ≤ 1048576 := of_decide_eq_true hk
  refine (walk W base enc v0 d0 p0 o0 h0 bk).mono fun e W' ⟨he, bel⟩ => ?_
  subst he
  exact ⟨_, rfl, _, _, _, [], _, [], hW', trodAll_mk1 (shut_bool Try.underlying4 _), (trodAll_cons_mk (Below.trod laidOut (by kernel_rfl) (of_decide_eq_true (by kernel_rfl)) h0 bel lt0) trodAll_mk0), rfl, bel.frame _, fun h => by cases h⟩

theorem lifted (os : Os) (started : os.Started) (H : Type) (enc : TypeId × Value → H) (F : Stop.Interp) :
    ReturnsInHanded {} Try.checked os 5 .any ((Rows.OpenSpec.upto Rows.viewEncodesSpec).pre6 enc Try.prog Try.f5 Rows.viewEncodesUptoRow.domain false) (((Rows.OpenSpec.upto Rows.viewEncodesSpec).at F).post enc Try.prog Try.f5 false true false false) := by
  refine returnsInHanded_of_cond (C := Try.checked) (s := Rows.OpenSpec.upto Rows.viewEncodesSpec) (k := Rows.uptoSmall) rfl own started (by kernel_rfl) Try.func5
    (OpenSpec.witness (enc := enc) (C := Try.checked) (s := Rows.OpenSpec.upto Rows.viewEncodesSpec) (k := Rows.uptoSmall) rfl false ⟨#[], #[.agg #[.int .i64 0, .int .i64 0, .int .i64 0, .int .i64 0, .int .i64 0, .int .i64 0, .int .i64 0, .int .i64 0, .slice none 0 0, .slice none 0 0, .bool false, .bool false, .bool false, .int .i64 0, .int .i64 0, .int .i64 0, .int .i64 0, .int .i64 0, .int .i64 0, .int .i64 0, .int .i64 0, .int .i64 0, .slice none 0 0, .slice none 0 0, .bool false, .bool false, .bool false, .int .i64 0, .int .i64 0, .slice none 0 0, .slice none 0 0, .slice none 0 0, .slice none 0 0, .slice none 0 0, .int .i64 0, .int .i64 0, .int .i64 0, .int .i64 0, .int .i64 0, .int .i64 0, .int .i64 0, .int .i64 0, .slice none 0 0]], []⟩ 8 (by kernel_rfl) (by kernel_rfl) (by kernel_rfl)
      (x := ([.agg [.lit (.int .i64 0), .agg [.agg [.lit (.int .i64 0), .agg [.lit (.int .i64 0), .lit (.int .i64 0), .lit (.int .i64 0), .lit (.int .i64 0)], .lit (.int .i64 0), .lit (.int .i64 0), .nil, .nil, .lit (.bool false), .lit (.bool false), .lit (.bool false), .lit (.int .i64 0), .lit (.int .i64 0)], .agg [.lit (.int .i64 0), .agg [.lit (.int .i64 0), .lit (.int .i64 0), .lit (.int .i64 0), .lit (.int .i64 0)], .lit (.int .i64 0), .lit (.int .i64 0), .nil, .nil, .lit (.bool false), .lit (.bool false), .lit (.bool false), .lit (.int .i64 0), .lit (.int .i64 0)]], .nil, .nil, .nil, .nil, .nil, .lit (.int .i64 0), .lit (.int .i64 0), .lit (.int .i64 0), .lit (.int .i64 0), .lit (.int .i64 0), .lit (.int .i64 0), .lit (.int .i64 0), .lit (.int .i64 0), .nil]], [], [])) (by kernel_rfl) rfl (by kernel_rfl)) ?_
  intro W base args ds gs before hval hW _ hk _
  exact contract H enc W base args ds gs before hval hW hk

theorem over : Rows.viewEncodesUptoRow.holds Try.pinned (Rows.OpenSpec.upto Rows.viewEncodesSpec) :=
  OpenClaim.holds_of_cond 5 Try.f5 rfl rfl rfl rfl rfl rfl rfl ⟨rfl, rfl, rfl, rfl, rfl⟩ rfl rfl rfl rfl rfl (by kernel_rfl) Try.func5 (by kernel_rfl)
    (of_decide_eq_true (by kernel_rfl)) (by unfold Func.isWrapper; first | (rw [if_pos (by decide +kernel)]; kernel_rfl) | (rw [if_neg (by decide +kernel)]; exact ⟨rfl, rfl⟩))
    (fun os started H enc _ F => lifted os started H enc F)

theorem proved : Rows.ViewEncodesUptoSaid := over

end
end Go.Proofs.Ytoicbojdnjcmiaa.viewEncodes
