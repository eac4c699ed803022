/-
  ViewEncodes: contracts of functions, part 2.
-/
import Derived.Test.YtoicbojdnjcmiaaRows
import Derived.Test.YtoicbojdnjcmiaaTheory
import Derived.WalkKit
import Derived.ProofKit
import Derived.OpenShut
import Derived.ChangeOld
import Derived.Below
import Derived.KernelRfl
import Derived.Lib.SmallJoins
import Derived.Test.YtoicbojdnjcmiaaViewEncodesParta
namespace Go.Proofs.Ytoicbojdnjcmiaa.viewEncodes
open Go.ChangeShapes Go.WideShapes Go.ChangeAt Go.RowKit
open Go.SX
set_option linter.unusedVariables false
set_option linter.unusedSimpArgs false
set_option maxRecDepth 100000
noncomputable section
abbrev J0 : E := .var 4
abbrev J1 : E := .not (.cmp .lss (.int 1000) (.fn 0 J0))
abbrev J2 : E := .var 0
abbrev J3 : E := .var 3
abbrev J4 : E := .var 1
abbrev J5 : E := .cmp .lss (.fn 6 (.pr J4 (.fn 8 (.pr (.int 10) (.int 0))))) J4
abbrev J6 : E := .not J5
abbrev J7 : E := .var 8
abbrev J8 : E := .var 12
abbrev J9 : E := .fn 101 (.pr J7 (.pr (.var 11) (.pr J2 (.pr J3 (.pr (.int 0) (.pr J0 J8))))))
abbrev J10 : E := .cmp .lss (.fn 1 (.pr J0 J8)) (.int (-2147483647))
abbrev J11 : E := .cmp .lss (.fn 1 (.pr J0 J8)) (.int 0)
abbrev J12 : E := .cmp .lss J8 (.fn 0 J0)
abbrev J13 : E := .not (.cmp .lss J8 (.int 0))
abbrev J14 : E := .fn 118 (.pr (.int 0) J0)
abbrev J15 : E := .and J12 (.and J13 J14)
abbrev J16 : E := .cmp .lss (.int 2147483647) (.fn 1 (.pr J0 J8))
abbrev J17 : E := .wr .u64 (.fn 1 (.pr J0 J8))
abbrev J18 : E := .bool true
abbrev J19 : E := .and J12 J13
abbrev J20 : E := .and J14 (.and J11 J19)
abbrev J21 : E := .and J14 (.and (.not J11) J19)
abbrev J22 : E := .and J14 (.and J10 J19)
abbrev J23 : E := .cmp .eql J4 (.fn 0 J2)
abbrev J24 : E := .var 16
abbrev J25 : E := .var 20
abbrev J26 : E := .fn 103 (.pr J24 (.pr (.var 19) (.pr J2 (.pr J3 (.pr J0 (.pr J8 J25))))))
abbrev J27 : E := .var 17
abbrev J28 : E := .cmp .eql J27 (.fn 0 J24)
abbrev J29 : E := .and J26 (.and J12 (.and J13 J28))
abbrev J30 : E := .and (.not (.cmp .lss J4 (.int 1))) (.and (.not (.cmp .lss (.int 2000000) J4)) J23)
abbrev J31 : E := .cmp .lss (.int 2147483648) (.fn 6 (.pr J27 (.int 1)))
abbrev J32 : E := .not J31
abbrev J33 : E := .cmp .lss (.int 127) J25
abbrev J34 : E := .cmp .lss (.int 18446744073709551615) J25
abbrev J35 : E := .not J34
abbrev J36 : E := .ar .add .i64 J8 (.int 1)
abbrev J37 : E := .cmp .eql (.fn 6 (.pr J27 (.int 1))) (.fn 6 (.pr (.fn 0 J24) (.int 1)))
abbrev J38 : E := .and J26 (.and J14 (.and J12 (.and J13 J1)))
abbrev J39 : E := .and J33 J35
abbrev J40 : E := .and J14 J39
abbrev J41 : E := .and J13 J40
abbrev J42 : E := .and J12 J41
abbrev J43 : E := .and J26 J42
abbrev J44 : E := .var 5
abbrev J45 : E := .var 6
abbrev J46 : E := .var 7
abbrev J47 : E := .fn 118 (.pr (.int 0) (.fn 23 (.pr J44 (.fn 23 (.pr J45 (.fn 23 (.pr J46 (.fn 23 (.pr J7 (.fn 10 (.int 0)))))))))))
abbrev J48 : E := .var 24
abbrev J49 : E := .var 27
abbrev J50 : E := .var 28
abbrev J51 : E := .fn 101 (.pr J48 (.pr J49 (.pr J2 (.pr J3 (.pr (.int 0) (.pr (.fn 23 (.pr J44 (.fn 23 (.pr J45 (.fn 23 (.pr J46 (.fn 23 (.pr J7 (.fn 10 (.int 0)))))))))) J50))))))
abbrev J52 : E := .cmp .eql J50 (.int 0)
abbrev J53 : E := .not J49
abbrev J54 : E := .cmp .lss J44 (.int (-2147483647))
abbrev J55 : E := .cmp .lss J44 (.int 0)
abbrev J56 : E := .wr .u64 J44
abbrev J57 : E := .cmp .eql J50 (.int 1)
abbrev J58 : E := .cmp .lss J45 (.int (-2147483647))
abbrev J59 : E := .cmp .lss J45 (.int 0)
abbrev J60 : E := .wr .u64 J45
abbrev J61 : E := .var 33
abbrev J62 : E := .var 32
abbrev J63 : E := .cmp .eql J61 (.fn 0 J62)
abbrev J64 : E := .var 36
abbrev J65 : E := .fn 103 (.pr J62 (.pr (.var 35) (.pr J2 (.pr J3 (.pr (.fn 23 (.pr J44 (.fn 23 (.pr J45 (.fn 23 (.pr J46 (.fn 23 (.pr J7 (.fn 10 (.int 0)))))))))) (.pr J50 J64))))))
abbrev J66 : E := .cmp .lss J50 (.int 4)
abbrev J67 : E := .and J65 J66
abbrev J68 : E := .and J63 J67
abbrev J69 : E := .cmp .eql J50 (.int 2)
abbrev J70 : E := .cmp .lss J46 (.int (-2147483647))
abbrev J71 : E := .cmp .lss J46 (.int 0)
abbrev J72 : E := .wr .u64 J46
abbrev J73 : E := .not (.cmp .lss (.int 4) J50)
abbrev J74 : E := .not (.cmp .lss J50 (.int 0))
abbrev J75 : E := .cmp .lss J7 (.int (-2147483647))
abbrev J76 : E := .cmp .lss J7 (.int 0)
abbrev J77 : E := .wr .u64 J7
abbrev J78 : E := .cmp .lss (.int 18446744073709551615) J64
abbrev J79 : E := .not J78
abbrev J80 : E := .cmp .lss J64 (.int 0)
abbrev J81 : E := .not J80
abbrev J82 : E := .cmp .lss (.int 127) J64
abbrev J83 : E := .ar .add .i64 J50 (.int 1)
abbrev J84 : E := .and J65 (.and J66 J74)
abbrev J85 : E := .var 25
abbrev J86 : E := .and J66 (.and J74 J82)
abbrev J87 : E := .and J65 J86
abbrev J88 : E := .and J81 J87
abbrev J89 : E := .and J79 J88
abbrev J90 : E := .cmp .lss (.fn 1 (.pr J4 (.int 0))) (.int (-2147483647))
abbrev J91 : E := .cmp .lss (.fn 1 (.pr J4 (.int 0))) (.int 0)
abbrev J92 : E := .cmp .eql (.fn 0 J4) (.int 1)
abbrev J93 : E := .fn 118 (.pr (.int 0) J4)
abbrev J94 : E := .and J92 J93
abbrev J95 : E := .cmp .lss (.int 2147483647) (.fn 1 (.pr J4 (.int 0)))
abbrev J96 : E := .wr .u64 (.fn 1 (.pr J4 (.int 0)))
abbrev J97 : E := .cmp .lss (.int 127) J85
abbrev J98 : E := .cmp .lss (.int 18446744073709551615) J85
abbrev J99 : E := .not J98
abbrev J100 : E := .pr (.int 0) J85
abbrev J101 : E := .pr J4 J100
abbrev J102 : E := .pr J2 J101
abbrev J103 : E := .pr (.fn 10 (.int 0)) J102
abbrev J104 : E := .pr J48 J103
abbrev J105 : E := .pr (.fn 10 (.int 0)) J104
abbrev J106 : E := .fn 103 J105
abbrev J107 : E := .pr J2 (.pr (.int 0) (.pr J4 (.int 1)))
abbrev J108 : E := .pr (.fn 10 (.int 0)) J107
abbrev J109 : E := .fn 103 (.pr J24 (.pr (.var 19) (.pr (.fn 10 (.int 0)) (.pr J2 (.pr J4 (.pr (.int 0) J25))))))
abbrev J110 : E := .cmp .lss J27 (.int 1)
abbrev J111 : E := .not J110
abbrev J112 : E := .and J111 J28
abbrev J113 : E := .and J97 J99
abbrev J114 : E := .and J93 J113
abbrev J115 : E := .and J92 J114
abbrev J116 : E := .and J106 J115
abbrev J117 : E := .and J93 J112
abbrev J118 : E := .and J92 J117
abbrev J119 : E := .and J109 J118
abbrev J120 : E := .and J93 J39
abbrev J121 : E := .and J92 J120
abbrev J122 : E := .and J109 J121
namespace p5
def f0 : E := (.imp J1 (.fn 101 (.pr J2 (.pr J3 (.pr J2 (.pr J3 (.pr (.int 0) (.pr J0 (.int 0)))))))))
theorem fact0 (ρ : Env) : E.B ρ f0 = true := by
  unfold f0
  rw [sm_B_imp]
  intro p0
  exact t101_zero (Int.le_refl 0)
def f1 : E := (.imp J1 J6)
theorem fact1 (ρ : Env) : E.B ρ f1 = true := by
  unfold f1
  rw [sm_B_imp]
  intro p0
  try simp only [smZ] at *
  omega
def f2 : E := (.imp (.and J9 (.and (.not (.var 11)) (.and (.not J10) (.and J11 J15)))) (.fn 103 (.pr J7 (.pr J16 (.pr J2 (.pr J3 (.pr J0 (.pr J8 (.ar .xor .u64 (.int 18446744073709551615) (.ar .shl .u64 J17 (.int 1)))))))))))
theorem fact2 (ρ : Env) : E.B ρ f2 = true := by
  unfold f2
  rw [sm_B_imp]
  simp only [sm_B_and]
  rintro ⟨p0, p1, p2, p3, p4, p5, p6⟩
  have hn := in64_nth (i := J8) p6 (by simp only [smZ] at * <;> omega) (by simp only [smZ] at * <;> omega)
  have hg := nums_nth (i := J8) p6 (by simp only [smZ] at * <;> omega) (by simp only [smZ] at * <;> omega)
  have hz := zig_neg hn (by simp only [smZ] at * <;> omega)
  exact t103_start p0 (by simp only [smZ] at * <;> omega) (by simp only [smZ] at * <;> omega) hg hz (hb_hi (by have q := p1; rwa [sm_B_not] at q) (by simp only [smZ] at * <;> omega))
def f3 : E := (.imp (.and J9 (.and (.not (.var 11)) (.and (.not J10) (.and (.not J11) J15)))) (.fn 103 (.pr J7 (.pr J16 (.pr J2 (.pr J3 (.pr J0 (.pr J8 (.ar .shl .u64 J17 (.int 1))))))))))
theorem fact3 (ρ : Env) : E.B ρ f3 = true := by
  unfold f3
  rw [sm_B_imp]
  simp only [sm_B_and]
  rintro ⟨p0, p1, p2, p3, p4, p5, p6⟩
  have hn := in64_nth (i := J8) p6 (by simp only [smZ] at * <;> omega) (by simp only [smZ] at * <;> omega)
  have hg := nums_nth (i := J8) p6 (by simp only [smZ] at * <;> omega) (by simp only [smZ] at * <;> omega)
  have hz := zig_nn hn (by simp only [smZ] at * <;> omega)
  exact t103_start p0 (by simp only [smZ] at * <;> omega) (by simp only [smZ] at * <;> omega) hg hz (hb_hi (by have q := p1; rwa [sm_B_not] at q) (by simp only [smZ] at * <;> omega))
def f4 : E := (.imp (.and J9 (.and J10 J15)) (.fn 103 (.pr J7 (.pr J18 (.pr J2 (.pr J3 (.pr J0 (.pr J8 (.ar .xor .u64 (.int 18446744073709551615) (.ar .shl .u64 J17 (.int 1)))))))))))
theorem fact4 (ρ : Env) : E.B ρ f4 = true := by
  unfold f4
  rw [sm_B_imp]
  simp only [sm_B_and]
  rintro ⟨p0, p1, p2, p3, p4⟩
  have hn := in64_nth (i := J8) p4 (by simp only [smZ] at * <;> omega) (by simp only [smZ] at * <;> omega)
  have hg := nums_nth (i := J8) p4 (by simp only [smZ] at * <;> omega) (by simp only [smZ] at * <;> omega)
  have hz := zig_neg hn (by simp only [smZ] at * <;> omega)
  exact t103_start p0 (by simp only [smZ] at * <;> omega) (by simp only [smZ] at * <;> omega) hg hz (hb_lo (by simp only [smZ] at * <;> omega))
def f5 : E := (.imp (.and J9 (.and (.var 11) (.and J11 J15))) (.fn 103 (.pr J7 (.pr J18 (.pr J2 (.pr J3 (.pr J0 (.pr J8 (.ar .xor .u64 (.int 18446744073709551615) (.ar .shl .u64 J17 (.int 1)))))))))))
theorem fact5 (ρ : Env) : E.B ρ f5 = true := by
  unfold f5
  rw [sm_B_imp]
  simp only [sm_B_and]
  rintro ⟨p0, p1, p2, p3, p4, p5⟩
  have hn := in64_nth (i := J8) p5 (by simp only [smZ] at * <;> omega) (by simp only [smZ] at * <;> omega)
  have hg := nums_nth (i := J8) p5 (by simp only [smZ] at * <;> omega) (by simp only [smZ] at * <;> omega)
  have hz := zig_neg hn (by simp only [smZ] at * <;> omega)
  exact t103_start p0 (by simp only [smZ] at * <;> omega) (by simp only [smZ] at * <;> omega) hg hz (hb_t p1)
def f6 : E := (.imp (.and J9 (.and (.var 11) (.and (.not J11) J15))) (.fn 103 (.pr J7 (.pr J18 (.pr J2 (.pr J3 (.pr J0 (.pr J8 (.ar .shl .u64 J17 (.int 1))))))))))
theorem fact6 (ρ : Env) : E.B ρ f6 = true := by
  unfold f6
  rw [sm_B_imp]
  simp only [sm_B_and]
  rintro ⟨p0, p1, p2, p3, p4, p5⟩
  have hn := in64_nth (i := J8) p5 (by simp only [smZ] at * <;> omega) (by simp only [smZ] at * <;> omega)
  have hg := nums_nth (i := J8) p5 (by simp only [smZ] at * <;> omega) (by simp only [smZ] at * <;> omega)
  have hz := zig_nn hn (by simp only [smZ] at * <;> omega)
  exact t103_start p0 (by simp only [smZ] at * <;> omega) (by simp only [smZ] at * <;> omega) hg hz (hb_t p1)
def f7 : E := (.imp (.and (.not (.cmp .lss (.fn 0 J0) J8)) (.and J9 (.not J12))) (.fn 101 (.pr J7 (.pr (.var 11) (.pr J2 (.pr J3 (.pr (.int 0) (.pr J0 (.fn 0 J0)))))))))
theorem fact7 (ρ : Env) : E.B ρ f7 = true := by
  unfold f7
  rw [sm_B_imp]
  simp only [sm_B_and]
  rintro ⟨p0, p1, p2⟩
  have g0 : E.I ρ (.fn 0 J0) = E.I ρ J8 := by
    try simp only [smZ] at *
    omega
  exact t101_eq p1 g0
def f8 : E := (.imp J20 (.not (.cmp .lss (.ar .xor .u64 (.int 18446744073709551615) (.ar .shl .u64 J17 (.int 1))) (.int 0))))
theorem fact8 (ρ : Env) : E.B ρ f8 = true := by
  unfold f8
  rw [sm_B_imp]
  simp only [sm_B_and]
  rintro ⟨p0, p1, p2, p3⟩
  have hn := in64_nth (i := J8) p0 (by simp only [smZ] at * <;> omega) (by simp only [smZ] at * <;> omega)
  have hg := nums_nth (i := J8) p0 (by simp only [smZ] at * <;> omega) (by simp only [smZ] at * <;> omega)
  have hz := zig_neg hn (by simp only [smZ] at * <;> omega)
  rw [sm_B_not, sm_B_lss]
  exact zig_lo hn hz
def f9 : E := (.imp J21 (.not (.cmp .lss (.ar .shl .u64 J17 (.int 1)) (.int 0))))
theorem fact9 (ρ : Env) : E.B ρ f9 = true := by
  unfold f9
  rw [sm_B_imp]
  simp only [sm_B_and]
  rintro ⟨p0, p1, p2, p3⟩
  have hn := in64_nth (i := J8) p0 (by simp only [smZ] at * <;> omega) (by simp only [smZ] at * <;> omega)
  have hg := nums_nth (i := J8) p0 (by simp only [smZ] at * <;> omega) (by simp only [smZ] at * <;> omega)
  have hz := zig_nn hn (by simp only [smZ] at * <;> omega)
  rw [sm_B_not, sm_B_lss]
  exact zig_lo hn hz
def f10 : E := (.imp J22 (.not (.cmp .lss (.ar .xor .u64 (.int 18446744073709551615) (.ar .shl .u64 J17 (.int 1))) (.int 0))))
theorem fact10 (ρ : Env) : E.B ρ f10 = true := by
  unfold f10
  rw [sm_B_imp]
  simp only [sm_B_and]
  rintro ⟨p0, p1, p2, p3⟩
  have hn := in64_nth (i := J8) p0 (by simp only [smZ] at * <;> omega) (by simp only [smZ] at * <;> omega)
  have hg := nums_nth (i := J8) p0 (by simp only [smZ] at * <;> omega) (by simp only [smZ] at * <;> omega)
  have hz := zig_neg hn (by simp only [smZ] at * <;> omega)
  rw [sm_B_not, sm_B_lss]
  exact zig_lo hn hz
def f11 : E := (.imp (.and (.not (.cmp .lss (.fn 6 (.pr J4 (.fn 8 (.pr (.int 10) J8)))) (.var 9))) (.and (.cmp .eql (.var 9) (.fn 0 J7)) (.and (.not (.cmp .lss (.fn 0 J0) J8)) (.and (.not J12) J23)))) (.not (.cmp .lss (.fn 6 (.pr J4 (.fn 8 (.pr (.int 10) (.fn 0 J0))))) (.var 9))))
theorem fact11 (ρ : Env) : E.B ρ f11 = true := by
  unfold f11
  rw [sm_B_imp]
  simp only [sm_B_and]
  rintro ⟨p0, p1, p2, p3, p4⟩
  try simp only [smZ] at *
  omega
def f12 : E := (.imp J20 (.not (.cmp .lss (.int 18446744073709551615) (.ar .xor .u64 (.int 18446744073709551615) (.ar .shl .u64 J17 (.int 1))))))
theorem fact12 (ρ : Env) : E.B ρ f12 = true := by
  unfold f12
  rw [sm_B_imp]
  simp only [sm_B_and]
  rintro ⟨p0, p1, p2, p3⟩
  have hn := in64_nth (i := J8) p0 (by simp only [smZ] at * <;> omega) (by simp only [smZ] at * <;> omega)
  have hg := nums_nth (i := J8) p0 (by simp only [smZ] at * <;> omega) (by simp only [smZ] at * <;> omega)
  have hz := zig_neg hn (by simp only [smZ] at * <;> omega)
  rw [sm_B_not, sm_B_lss]
  exact zig_hi hn hz
def f13 : E := (.imp J21 (.not (.cmp .lss (.int 18446744073709551615) (.ar .shl .u64 J17 (.int 1)))))
theorem fact13 (ρ : Env) : E.B ρ f13 = true := by
  unfold f13
  rw [sm_B_imp]
  simp only [sm_B_and]
  rintro ⟨p0, p1, p2, p3⟩
  have hn := in64_nth (i := J8) p0 (by simp only [smZ] at * <;> omega) (by simp only [smZ] at * <;> omega)
  have hg := nums_nth (i := J8) p0 (by simp only [smZ] at * <;> omega) (by simp only [smZ] at * <;> omega)
  have hz := zig_nn hn (by simp only [smZ] at * <;> omega)
  rw [sm_B_not, sm_B_lss]
  exact zig_hi hn hz
def f14 : E := (.imp J22 (.not (.cmp .lss (.int 18446744073709551615) (.ar .xor .u64 (.int 18446744073709551615) (.ar .shl .u64 J17 (.int 1))))))
theorem fact14 (ρ : Env) : E.B ρ f14 = true := by
  unfold f14
  rw [sm_B_imp]
  simp only [sm_B_and]
  rintro ⟨p0, p1, p2, p3⟩
  have hn := in64_nth (i := J8) p0 (by simp only [smZ] at * <;> omega) (by simp only [smZ] at * <;> omega)
  have hg := nums_nth (i := J8) p0 (by simp only [smZ] at * <;> omega) (by simp only [smZ] at * <;> omega)
  have hz := zig_neg hn (by simp only [smZ] at * <;> omega)
  rw [sm_B_not, sm_B_lss]
  exact zig_hi hn hz
def f15 : E := (.imp J29 (.not (.cmp .lss J27 (.int 0))))
theorem fact15 (ρ : Env) : E.B ρ f15 = true := by
  unfold f15
  rw [sm_B_imp]
  simp only [sm_B_and]
  rintro ⟨p0, p1, p2, p3⟩
  try simp only [smZ] at *
  have n2 := @fn0_nn ρ J0
  have n4 := @fn0_nn ρ J24
  omega
def f16 : E := (.imp (.and J26 (.and J12 (.and J13 (.and J14 (.and (.not (.cmp .lss (.var 18) J27)) J28))))) (.not (.cmp .lss (.var 18) (.int 0))))
theorem fact16 (ρ : Env) : E.B ρ f16 = true := by
  unfold f16
  rw [sm_B_imp]
  simp only [sm_B_and]
  rintro ⟨p0, p1, p2, p3, p4, p5⟩
  have hl0 := t103_len p0 p3 (by simp only [smZ] at * <;> omega) (by simp only [smZ] at * <;> omega)
  try simp only [smZ] at *
  have n2 := @fn0_nn ρ J0
  have n5 := @fn0_nn ρ J24
  omega
def f17 : E := (.imp (.and J26 (.and J12 (.and J13 (.and J1 (.and J14 (.and (.not (.cmp .lss J27 J4)) (.and J28 J30))))))) J32)
theorem fact17 (ρ : Env) : E.B ρ f17 = true := by
  unfold f17
  rw [sm_B_imp]
  simp only [sm_B_and]
  rintro ⟨p0, p1, p2, p3, p4, p5, p6, p7, p8, p9⟩
  have hl0 := t103_len p0 p4 (by simp only [smZ] at * <;> omega) (by simp only [smZ] at * <;> omega)
  try simp only [smZ] at *
  have n2 := @fn0_nn ρ J0
  have n5 := @fn0_nn ρ J24
  have n6 := @fn0_nn ρ J2
  omega
def f18 : E := (.imp (.and J33 (.and J35 (.and J26 J15))) (.fn 103 (.pr (.fn 3 (.pr J24 (.fn 23 (.pr (.ar .or .u8 (.wr .u8 J25) (.int 128)) (.fn 10 (.int 0)))))) (.pr (.var 19) (.pr J2 (.pr J3 (.pr J0 (.pr J8 (.ar .shr .u64 J25 (.int 7))))))))))
theorem fact18 (ρ : Env) : E.B ρ f18 = true := by
  unfold f18
  rw [sm_B_imp]
  simp only [sm_B_and]
  rintro ⟨p0, p1, p2, p3, p4, p5⟩
  have g0 : (0) ≤ E.I ρ J25 := by
    try simp only [smZ] at *
    omega
  exact t103_step p2 (by simp only [smZ] at * <;> omega) (I_or g0) I_shr
def f19 : E := (.imp (.and (.not J33) (.and (.not (.cmp .lss J25 (.int 0))) (.and J26 (.and J12 (.and J13 (.and J1 J14)))))) (.fn 101 (.pr (.fn 3 (.pr J24 (.fn 23 (.pr (.wr .u8 J25) (.fn 10 (.int 0)))))) (.pr (.var 19) (.pr J2 (.pr J3 (.pr (.int 0) (.pr J0 J36))))))))
theorem fact19 (ρ : Env) : E.B ρ f19 = true := by
  unfold f19
  rw [sm_B_imp]
  simp only [sm_B_and]
  rintro ⟨p0, p1, p2, p3, p4, p5, p6⟩
  obtain ⟨g0, g1, g2⟩ : (0) ≤ E.I ρ J25 ∧ E.I ρ J25 < (128) ∧ E.I ρ J36 = E.I ρ (.fn 6 (.pr J8 (.int 1))) := by
    try simp only [smZ] at *
    obtain ⟨a3, ea3, qa3⟩ := cs_i64 ((E.I ρ J8) + (1))
    try simp only [ea3] at *
    omega
  exact t103_end p2 g1 g0 (I_wr8 g0 g1) (by simp only [smZ] at * <;> omega) (by simp only [smZ] at * <;> omega) g2
def f20 : E := (.imp J29 J37)
theorem fact20 (ρ : Env) : E.B ρ f20 = true := by
  unfold f20
  rw [sm_B_imp]
  simp only [sm_B_and]
  rintro ⟨p0, p1, p2, p3⟩
  try simp only [smZ] at *
  omega
def f21 : E := (.imp J38 (.not (.cmp .lss J36 (.int 0))))
theorem fact21 (ρ : Env) : E.B ρ f21 = true := by
  unfold f21
  rw [sm_B_imp]
  simp only [sm_B_and]
  rintro ⟨p0, p1, p2, p3, p4⟩
  try simp only [smZ] at *
  obtain ⟨a2, ea2, qa2⟩ := cs_i64 ((E.I ρ J8) + (1))
  try simp only [ea2] at *
  omega
def f22 : E := (.imp (.and J26 (.and J12 (.and J13 (.not (.cmp .lss J27 J4))))) (.not (.cmp .lss (.fn 6 (.pr J27 (.int 1))) J4)))
theorem fact22 (ρ : Env) : E.B ρ f22 = true := by
  unfold f22
  rw [sm_B_imp]
  simp only [sm_B_and]
  rintro ⟨p0, p1, p2, p3⟩
  try simp only [smZ] at *
  omega
def f23 : E := (.imp J38 (.not (.cmp .lss (.fn 0 J0) J36)))
theorem fact23 (ρ : Env) : E.B ρ f23 = true := by
  unfold f23
  rw [sm_B_imp]
  simp only [sm_B_and]
  rintro ⟨p0, p1, p2, p3, p4⟩
  try simp only [smZ] at *
  obtain ⟨a2, ea2, qa2⟩ := cs_i64 ((E.I ρ J8) + (1))
  try simp only [ea2] at *
  omega
def f24 : E := (.imp J43 (.not (.cmp .lss (.ar .shr .u64 J25 (.int 7)) (.int 0))))
theorem fact24 (ρ : Env) : E.B ρ f24 = true := by
  unfold f24
  rw [sm_B_imp]
  simp only [sm_B_and]
  rintro ⟨p0, p1, p2, p3, p4, p5⟩
  try simp only [smZ] at *
  omega
def f25 : E := (.imp J43 (.not (.cmp .lss (.int 18446744073709551615) (.ar .shr .u64 J25 (.int 7)))))
theorem fact25 (ρ : Env) : E.B ρ f25 = true := by
  unfold f25
  rw [sm_B_imp]
  simp only [sm_B_and]
  rintro ⟨p0, p1, p2, p3, p4, p5⟩
  try simp only [smZ] at *
  omega
def f26 : E := (.imp J43 (.cmp .lss (.ar .shr .u64 J25 (.int 7)) J25))
theorem fact26 (ρ : Env) : E.B ρ f26 = true := by
  unfold f26
  rw [sm_B_imp]
  simp only [sm_B_and]
  rintro ⟨p0, p1, p2, p3, p4, p5⟩
  try simp only [smZ] at *
  omega
def f27 : E := (.imp (.and J26 (.and J14 (.and J28 (.and J12 (.and J13 (.and J1 J23)))))) (.not (.cmp .lss (.fn 6 (.pr J4 (.fn 8 (.pr (.int 10) J36)))) (.fn 6 (.pr J27 (.int 1))))))
theorem fact27 (ρ : Env) : E.B ρ f27 = true := by
  unfold f27
  rw [sm_B_imp]
  simp only [sm_B_and]
  rintro ⟨p0, p1, p2, p3, p4, p5, p6⟩
  have hl0 := t103_len p0 p1 (by simp only [smZ] at * <;> omega) (by simp only [smZ] at * <;> omega)
  try simp only [smZ] at *
  have n2 := @fn0_nn ρ J24
  have n4 := @fn0_nn ρ J0
  have n6 := @fn0_nn ρ J2
  obtain ⟨a6, ea6, qa6⟩ := cs_i64 ((E.I ρ J8) + (1))
  try simp only [ea6] at *
  omega
def f28 : E := (.imp J38 (.cmp .lss (.fn 7 (.pr (.fn 0 J0) J36)) (.fn 7 (.pr (.fn 0 J0) J8))))
theorem fact28 (ρ : Env) : E.B ρ f28 = true := by
  unfold f28
  rw [sm_B_imp]
  simp only [sm_B_and]
  rintro ⟨p0, p1, p2, p3, p4⟩
  try simp only [smZ] at *
  obtain ⟨a2, ea2, qa2⟩ := cs_i64 ((E.I ρ J8) + (1))
  try simp only [ea2] at *
  omega
def f29 : E := (.imp J38 (.not (.cmp .lss (.fn 7 (.pr (.fn 0 J0) J36)) (.int 0))))
theorem fact29 (ρ : Env) : E.B ρ f29 = true := by
  unfold f29
  rw [sm_B_imp]
  simp only [sm_B_and]
  rintro ⟨p0, p1, p2, p3, p4⟩
  try simp only [smZ] at *
  obtain ⟨a2, ea2, qa2⟩ := cs_i64 ((E.I ρ J8) + (1))
  try simp only [ea2] at *
  omega
def facts : List E := [f0, f1, f2, f3, f4, f5, f6, f7, f8, f9, f10, f11, f12, f13, f14, f15, f16, f17, f18, f19, f20, f21, f22, f23, f24, f25, f26, f27, f28, f29]
theorem facts_ok : ∀ e ∈ facts, ∀ ρ : Env, E.B ρ e = true := (all_cons fact0 (all_cons fact1 (all_cons fact2 (all_cons fact3 (all_cons fact4 (all_cons fact5 (all_cons fact6 (all_cons fact7 (all_cons fact8 (all_cons fact9 (all_cons fact10 (all_cons fact11 (all_cons fact12 (all_cons fact13 (all_cons fact14 (all_cons fact15 (all_cons fact16 (all_cons fact17 (all_cons fact18 (all_cons fact19 (all_cons fact20 (all_cons fact21 (all_cons fact22 (all_cons fact23 (all_cons fact24 (all_cons fact25 (all_cons fact26 (all_cons fact27 (all_cons fact28 (all_cons fact29 all_nil))))))))))))))))))))))))))))))
end p5
set_option maxRecDepth 100000 in
theorem spec5_0 : NatOk Try.prog (specNat (spB)) :=
  spec_of_check good (facts := p5.facts) p5.facts_ok (anns := annB) (plainAnns_ok _ (by kernel_rfl)) (nats := natl6) natl6_ok (n := 3000) (by kernel_rfl)
def natl7 : List Nat1 := specNat (spB) :: natl6
theorem natl7_ok : ∀ x ∈ natl7, NatOk Try.prog x := by
  intro x hx
  rcases List.mem_cons.1 hx with rfl | hx
  · exact spec5_0
  exact natl6_ok x hx

namespace p6
def f0 : E := (.imp J47 (.fn 101 (.pr J2 (.pr J3 (.pr J2 (.pr J3 (.pr (.int 0) (.pr (.fn 23 (.pr J44 (.fn 23 (.pr J45 (.fn 23 (.pr J46 (.fn 23 (.pr J7 (.fn 10 (.int 0)))))))))) (.int 0)))))))))
theorem fact0 (ρ : Env) : E.B ρ f0 = true := by
  unfold f0
  rw [sm_B_imp]
  intro p0
  exact t101_zero (Int.le_refl 0)
def f1 : E := (.imp J47 J6)
theorem fact1 (ρ : Env) : E.B ρ f1 = true := by
  unfold f1
  rw [sm_B_imp]
  intro p0
  try simp only [smZ] at *
  omega
def f2 : E := (.imp (.and J51 (.and J52 (.and J53 (.and (.not J54) (.and J55 J47))))) (.fn 103 (.pr J48 (.pr (.cmp .lss (.int 2147483647) J44) (.pr J2 (.pr J3 (.pr (.fn 23 (.pr J44 (.fn 23 (.pr J45 (.fn 23 (.pr J46 (.fn 23 (.pr J7 (.fn 10 (.int 0)))))))))) (.pr J50 (.ar .xor .u64 (.int 18446744073709551615) (.ar .shl .u64 J56 (.int 1)))))))))))
theorem fact2 (ρ : Env) : E.B ρ f2 = true := by
  unfold f2
  rw [sm_B_imp]
  simp only [sm_B_and]
  rintro ⟨p0, p1, p2, p3, p4, p5⟩
  have hn : in64 (E.I ρ J44) := in64_nth (i := (.int 0)) p5 (by simp only [smZ] at * <;> omega) (by simp only [smZ] at * <;> omega)
  have hk : E.I ρ J50 = E.I ρ (.int 0) := (by simp only [smZ] at * <;> omega)
  have hg : (nums ρ (.fn 23 (.pr J44 (.fn 23 (.pr J45 (.fn 23 (.pr J46 (.fn 23 (.pr J7 (.fn 10 (.int 0))))))))))).getD (E.I ρ J50).toNat 0 = E.I ρ J44 := by rw [hk]; exact nums_nth (i := (.int 0)) p5 (by simp only [smZ] at * <;> omega) (by simp only [smZ] at * <;> omega)
  have hz := zig_neg hn (by simp only [smZ] at * <;> omega)
  exact t103_start p0 (by simp only [smZ] at * <;> omega) (by simp only [smZ] at * <;> omega) hg hz (hb_hi (by have q := p2; rwa [sm_B_not] at q) (by simp only [smZ] at * <;> omega))
def f3 : E := (.imp (.and J51 (.and J52 (.and J53 (.and (.not J54) (.and (.not J55) J47))))) (.fn 103 (.pr J48 (.pr (.cmp .lss (.int 2147483647) J44) (.pr J2 (.pr J3 (.pr (.fn 23 (.pr J44 (.fn 23 (.pr J45 (.fn 23 (.pr J46 (.fn 23 (.pr J7 (.fn 10 (.int 0)))))))))) (.pr J50 (.ar .shl .u64 J56 (.int 1))))))))))
theorem fact3 (ρ : Env) : E.B ρ f3 = true := by
  unfold f3
  rw [sm_B_imp]
  simp only [sm_B_and]
  rintro ⟨p0, p1, p2, p3, p4, p5⟩
  have hn : in64 (E.I ρ J44) := in64_nth (i := (.int 0)) p5 (by simp only [smZ] at * <;> omega) (by simp only [smZ] at * <;> omega)
  have hk : E.I ρ J50 = E.I ρ (.int 0) := (by simp only [smZ] at * <;> omega)
  have hg : (nums ρ (.fn 23 (.pr J44 (.fn 23 (.pr J45 (.fn 23 (.pr J46 (.fn 23 (.pr J7 (.fn 10 (.int 0))))))))))).getD (E.I ρ J50).toNat 0 = E.I ρ J44 := by rw [hk]; exact nums_nth (i := (.int 0)) p5 (by simp only [smZ] at * <;> omega) (by simp only [smZ] at * <;> omega)
  have hz := zig_nn hn (by simp only [smZ] at * <;> omega)
  exact t103_start p0 (by simp only [smZ] at * <;> omega) (by simp only [smZ] at * <;> omega) hg hz (hb_hi (by have q := p2; rwa [sm_B_not] at q) (by simp only [smZ] at * <;> omega))
def f4 : E := (.imp (.and J51 (.and J52 (.and J54 J47))) (.fn 103 (.pr J48 (.pr J18 (.pr J2 (.pr J3 (.pr (.fn 23 (.pr J44 (.fn 23 (.pr J45 (.fn 23 (.pr J46 (.fn 23 (.pr J7 (.fn 10 (.int 0)))))))))) (.pr J50 (.ar .xor .u64 (.int 18446744073709551615) (.ar .shl .u64 J56 (.int 1)))))))))))
theorem fact4 (ρ : Env) : E.B ρ f4 = true := by
  unfold f4
  rw [sm_B_imp]
  simp only [sm_B_and]
  rintro ⟨p0, p1, p2, p3⟩
  have hn : in64 (E.I ρ J44) := in64_nth (i := (.int 0)) p3 (by simp only [smZ] at * <;> omega) (by simp only [smZ] at * <;> omega)
  have hk : E.I ρ J50 = E.I ρ (.int 0) := (by simp only [smZ] at * <;> omega)
  have hg : (nums ρ (.fn 23 (.pr J44 (.fn 23 (.pr J45 (.fn 23 (.pr J46 (.fn 23 (.pr J7 (.fn 10 (.int 0))))))))))).getD (E.I ρ J50).toNat 0 = E.I ρ J44 := by rw [hk]; exact nums_nth (i := (.int 0)) p3 (by simp only [smZ] at * <;> omega) (by simp only [smZ] at * <;> omega)
  have hz := zig_neg hn (by simp only [smZ] at * <;> omega)
  exact t103_start p0 (by simp only [smZ] at * <;> omega) (by simp only [smZ] at * <;> omega) hg hz (hb_lo (by simp only [smZ] at * <;> omega))
def f5 : E := (.imp (.and J51 (.and J52 (.and J49 (.and J55 J47)))) (.fn 103 (.pr J48 (.pr J18 (.pr J2 (.pr J3 (.pr (.fn 23 (.pr J44 (.fn 23 (.pr J45 (.fn 23 (.pr J46 (.fn 23 (.pr J7 (.fn 10 (.int 0)))))))))) (.pr J50 (.ar .xor .u64 (.int 18446744073709551615) (.ar .shl .u64 J56 (.int 1)))))))))))
theorem fact5 (ρ : Env) : E.B ρ f5 = true := by
  unfold f5
  rw [sm_B_imp]
  simp only [sm_B_and]
  rintro ⟨p0, p1, p2, p3, p4⟩
  have hn : in64 (E.I ρ J44) := in64_nth (i := (.int 0)) p4 (by simp only [smZ] at * <;> omega) (by simp only [smZ] at * <;> omega)
  have hk : E.I ρ J50 = E.I ρ (.int 0) := (by simp only [smZ] at * <;> omega)
  have hg : (nums ρ (.fn 23 (.pr J44 (.fn 23 (.pr J45 (.fn 23 (.pr J46 (.fn 23 (.pr J7 (.fn 10 (.int 0))))))))))).getD (E.I ρ J50).toNat 0 = E.I ρ J44 := by rw [hk]; exact nums_nth (i := (.int 0)) p4 (by simp only [smZ] at * <;> omega) (by simp only [smZ] at * <;> omega)
  have hz := zig_neg hn (by simp only [smZ] at * <;> omega)
  exact t103_start p0 (by simp only [smZ] at * <;> omega) (by simp only [smZ] at * <;> omega) hg hz (hb_t p2)
def f6 : E := (.imp (.and J51 (.and J52 (.and J49 (.and (.not J55) J47)))) (.fn 103 (.pr J48 (.pr J18 (.pr J2 (.pr J3 (.pr (.fn 23 (.pr J44 (.fn 23 (.pr J45 (.fn 23 (.pr J46 (.fn 23 (.pr J7 (.fn 10 (.int 0)))))))))) (.pr J50 (.ar .shl .u64 J56 (.int 1))))))))))
theorem fact6 (ρ : Env) : E.B ρ f6 = true := by
  unfold f6
  rw [sm_B_imp]
  simp only [sm_B_and]
  rintro ⟨p0, p1, p2, p3, p4⟩
  have hn : in64 (E.I ρ J44) := in64_nth (i := (.int 0)) p4 (by simp only [smZ] at * <;> omega) (by simp only [smZ] at * <;> omega)
  have hk : E.I ρ J50 = E.I ρ (.int 0) := (by simp only [smZ] at * <;> omega)
  have hg : (nums ρ (.fn 23 (.pr J44 (.fn 23 (.pr J45 (.fn 23 (.pr J46 (.fn 23 (.pr J7 (.fn 10 (.int 0))))))))))).getD (E.I ρ J50).toNat 0 = E.I ρ J44 := by rw [hk]; exact nums_nth (i := (.int 0)) p4 (by simp only [smZ] at * <;> omega) (by simp only [smZ] at * <;> omega)
  have hz := zig_nn hn (by simp only [smZ] at * <;> omega)
  exact t103_start p0 (by simp only [smZ] at * <;> omega) (by simp only [smZ] at * <;> omega) hg hz (hb_t p2)
def f7 : E := (.imp (.and J51 (.and J57 (.and J53 (.and (.not J58) (.and J59 J47))))) (.fn 103 (.pr J48 (.pr (.cmp .lss (.int 2147483647) J45) (.pr J2 (.pr J3 (.pr (.fn 23 (.pr J44 (.fn 23 (.pr J45 (.fn 23 (.pr J46 (.fn 23 (.pr J7 (.fn 10 (.int 0)))))))))) (.pr J50 (.ar .xor .u64 (.int 18446744073709551615) (.ar .shl .u64 J60 (.int 1)))))))))))
theorem fact7 (ρ : Env) : E.B ρ f7 = true := by
  unfold f7
  rw [sm_B_imp]
  simp only [sm_B_and]
  rintro ⟨p0, p1, p2, p3, p4, p5⟩
  have hn : in64 (E.I ρ J45) := in64_nth (i := (.int 1)) p5 (by simp only [smZ] at * <;> omega) (by simp only [smZ] at * <;> omega)
  have hk : E.I ρ J50 = E.I ρ (.int 1) := (by simp only [smZ] at * <;> omega)
  have hg : (nums ρ (.fn 23 (.pr J44 (.fn 23 (.pr J45 (.fn 23 (.pr J46 (.fn 23 (.pr J7 (.fn 10 (.int 0))))))))))).getD (E.I ρ J50).toNat 0 = E.I ρ J45 := by rw [hk]; exact nums_nth (i := (.int 1)) p5 (by simp only [smZ] at * <;> omega) (by simp only [smZ] at * <;> omega)
  have hz := zig_neg hn (by simp only [smZ] at * <;> omega)
  exact t103_start p0 (by simp only [smZ] at * <;> omega) (by simp only [smZ] at * <;> omega) hg hz (hb_hi (by have q := p2; rwa [sm_B_not] at q) (by simp only [smZ] at * <;> omega))
def f8 : E := (.imp (.and J51 (.and J57 (.and J53 (.and (.not J58) (.and (.not J59) J47))))) (.fn 103 (.pr J48 (.pr (.cmp .lss (.int 2147483647) J45) (.pr J2 (.pr J3 (.pr (.fn 23 (.pr J44 (.fn 23 (.pr J45 (.fn 23 (.pr J46 (.fn 23 (.pr J7 (.fn 10 (.int 0)))))))))) (.pr J50 (.ar .shl .u64 J60 (.int 1))))))))))
theorem fact8 (ρ : Env) : E.B ρ f8 = true := by
  unfold f8
  rw [sm_B_imp]
  simp only [sm_B_and]
  rintro ⟨p0, p1, p2, p3, p4, p5⟩
  have hn : in64 (E.I ρ J45) := in64_nth (i := (.int 1)) p5 (by simp only [smZ] at * <;> omega) (by simp only [smZ] at * <;> omega)
  have hk : E.I ρ J50 = E.I ρ (.int 1) := (by simp only [smZ] at * <;> omega)
  have hg : (nums ρ (.fn 23 (.pr J44 (.fn 23 (.pr J45 (.fn 23 (.pr J46 (.fn 23 (.pr J7 (.fn 10 (.int 0))))))))))).getD (E.I ρ J50).toNat 0 = E.I ρ J45 := by rw [hk]; exact nums_nth (i := (.int 1)) p5 (by simp only [smZ] at * <;> omega) (by simp only [smZ] at * <;> omega)
  have hz := zig_nn hn (by simp only [smZ] at * <;> omega)
  exact t103_start p0 (by simp only [smZ] at * <;> omega) (by simp only [smZ] at * <;> omega) hg hz (hb_hi (by have q := p2; rwa [sm_B_not] at q) (by simp only [smZ] at * <;> omega))
def f9 : E := (.imp (.and J51 (.and J57 (.and J58 J47))) (.fn 103 (.pr J48 (.pr J18 (.pr J2 (.pr J3 (.pr (.fn 23 (.pr J44 (.fn 23 (.pr J45 (.fn 23 (.pr J46 (.fn 23 (.pr J7 (.fn 10 (.int 0)))))))))) (.pr J50 (.ar .xor .u64 (.int 18446744073709551615) (.ar .shl .u64 J60 (.int 1)))))))))))
theorem fact9 (ρ : Env) : E.B ρ f9 = true := by
  unfold f9
  rw [sm_B_imp]
  simp only [sm_B_and]
  rintro ⟨p0, p1, p2, p3⟩
  have hn : in64 (E.I ρ J45) := in64_nth (i := (.int 1)) p3 (by simp only [smZ] at * <;> omega) (by simp only [smZ] at * <;> omega)
  have hk : E.I ρ J50 = E.I ρ (.int 1) := (by simp only [smZ] at * <;> omega)
  have hg : (nums ρ (.fn 23 (.pr J44 (.fn 23 (.pr J45 (.fn 23 (.pr J46 (.fn 23 (.pr J7 (.fn 10 (.int 0))))))))))).getD (E.I ρ J50).toNat 0 = E.I ρ J45 := by rw [hk]; exact nums_nth (i := (.int 1)) p3 (by simp only [smZ] at * <;> omega) (by simp only [smZ] at * <;> omega)
  have hz := zig_neg hn (by simp only [smZ] at * <;> omega)
  exact t103_start p0 (by simp only [smZ] at * <;> omega) (by simp only [smZ] at * <;> omega) hg hz (hb_lo (by simp only [smZ] at * <;> omega))
def f10 : E := (.imp (.and J51 (.and J57 (.and J49 (.and J59 J47)))) (.fn 103 (.pr J48 (.pr J18 (.pr J2 (.pr J3 (.pr (.fn 23 (.pr J44 (.fn 23 (.pr J45 (.fn 23 (.pr J46 (.fn 23 (.pr J7 (.fn 10 (.int 0)))))))))) (.pr J50 (.ar .xor .u64 (.int 18446744073709551615) (.ar .shl .u64 J60 (.int 1)))))))))))
theorem fact10 (ρ : Env) : E.B ρ f10 = true := by
  unfold f10
  rw [sm_B_imp]
  simp only [sm_B_and]
  rintro ⟨p0, p1, p2, p3, p4⟩
  have hn : in64 (E.I ρ J45) := in64_nth (i := (.int 1)) p4 (by simp only [smZ] at * <;> omega) (by simp only [smZ] at * <;> omega)
  have hk : E.I ρ J50 = E.I ρ (.int 1) := (by simp only [smZ] at * <;> omega)
  have hg : (nums ρ (.fn 23 (.pr J44 (.fn 23 (.pr J45 (.fn 23 (.pr J46 (.fn 23 (.pr J7 (.fn 10 (.int 0))))))))))).getD (E.I ρ J50).toNat 0 = E.I ρ J45 := by rw [hk]; exact nums_nth (i := (.int 1)) p4 (by simp only [smZ] at * <;> omega) (by simp only [smZ] at * <;> omega)
  have hz := zig_neg hn (by simp only [smZ] at * <;> omega)
  exact t103_start p0 (by simp only [smZ] at * <;> omega) (by simp only [smZ] at * <;> omega) hg hz (hb_t p2)
def f11 : E := (.imp (.and J47 J55) (.not (.cmp .lss (.ar .xor .u64 (.int 18446744073709551615) (.ar .shl .u64 J56 (.int 1))) (.int 0))))
theorem fact11 (ρ : Env) : E.B ρ f11 = true := by
  unfold f11
  rw [sm_B_imp]
  simp only [sm_B_and]
  rintro ⟨p0, p1⟩
  have hn : in64 (E.I ρ J44) := in64_nth (i := (.int 0)) p0 (by simp only [smZ] at * <;> omega) (by simp only [smZ] at * <;> omega)
  have hk : E.I ρ (.int 0) = E.I ρ (.int 0) := (by simp only [smZ] at * <;> omega)
  have hg : (nums ρ (.fn 23 (.pr J44 (.fn 23 (.pr J45 (.fn 23 (.pr J46 (.fn 23 (.pr J7 (.fn 10 (.int 0))))))))))).getD (E.I ρ (.int 0)).toNat 0 = E.I ρ J44 := by rw [hk]; exact nums_nth (i := (.int 0)) p0 (by simp only [smZ] at * <;> omega) (by simp only [smZ] at * <;> omega)
  have hz := zig_neg hn (by simp only [smZ] at * <;> omega)
  rw [sm_B_not, sm_B_lss]
  exact zig_lo hn hz
def f12 : E := (.imp (.and J47 (.not J55)) (.not (.cmp .lss (.ar .shl .u64 J56 (.int 1)) (.int 0))))
theorem fact12 (ρ : Env) : E.B ρ f12 = true := by
  unfold f12
  rw [sm_B_imp]
  simp only [sm_B_and]
  rintro ⟨p0, p1⟩
  have hn : in64 (E.I ρ J44) := in64_nth (i := (.int 0)) p0 (by simp only [smZ] at * <;> omega) (by simp only [smZ] at * <;> omega)
  have hk : E.I ρ (.int 0) = E.I ρ (.int 0) := (by simp only [smZ] at * <;> omega)
  have hg : (nums ρ (.fn 23 (.pr J44 (.fn 23 (.pr J45 (.fn 23 (.pr J46 (.fn 23 (.pr J7 (.fn 10 (.int 0))))))))))).getD (E.I ρ (.int 0)).toNat 0 = E.I ρ J44 := by rw [hk]; exact nums_nth (i := (.int 0)) p0 (by simp only [smZ] at * <;> omega) (by simp only [smZ] at * <;> omega)
  have hz := zig_nn hn (by simp only [smZ] at * <;> omega)
  rw [sm_B_not, sm_B_lss]
  exact zig_lo hn hz
def f13 : E := (.imp (.and J47 J54) (.not (.cmp .lss (.ar .xor .u64 (.int 18446744073709551615) (.ar .shl .u64 J56 (.int 1))) (.int 0))))
theorem fact13 (ρ : Env) : E.B ρ f13 = true := by
  unfold f13
  rw [sm_B_imp]
  simp only [sm_B_and]
  rintro ⟨p0, p1⟩
  have hn : in64 (E.I ρ J44) := in64_nth (i := (.int 0)) p0 (by simp only [smZ] at * <;> omega) (by simp only [smZ] at * <;> omega)
  have hk : E.I ρ (.int 0) = E.I ρ (.int 0) := (by simp only [smZ] at * <;> omega)
  have hg : (nums ρ (.fn 23 (.pr J44 (.fn 23 (.pr J45 (.fn 23 (.pr J46 (.fn 23 (.pr J7 (.fn 10 (.int 0))))))))))).getD (E.I ρ (.int 0)).toNat 0 = E.I ρ J44 := by rw [hk]; exact nums_nth (i := (.int 0)) p0 (by simp only [smZ] at * <;> omega) (by simp only [smZ] at * <;> omega)
  have hz := zig_neg hn (by simp only [smZ] at * <;> omega)
  rw [sm_B_not, sm_B_lss]
  exact zig_lo hn hz
def f14 : E := (.imp (.and J47 J59) (.not (.cmp .lss (.ar .xor .u64 (.int 18446744073709551615) (.ar .shl .u64 J60 (.int 1))) (.int 0))))
theorem fact14 (ρ : Env) : E.B ρ f14 = true := by
  unfold f14
  rw [sm_B_imp]
  simp only [sm_B_and]
  rintro ⟨p0, p1⟩
  have hn : in64 (E.I ρ J45) := in64_nth (i := (.int 1)) p0 (by simp only [smZ] at * <;> omega) (by simp only [smZ] at * <;> omega)
  have hk : E.I ρ (.int 1) = E.I ρ (.int 1) := (by simp only [smZ] at * <;> omega)
  have hg : (nums ρ (.fn 23 (.pr J44 (.fn 23 (.pr J45 (.fn 23 (.pr J46 (.fn 23 (.pr J7 (.fn 10 (.int 0))))))))))).getD (E.I ρ (.int 1)).toNat 0 = E.I ρ J45 := by rw [hk]; exact nums_nth (i := (.int 1)) p0 (by simp only [smZ] at * <;> omega) (by simp only [smZ] at * <;> omega)
  have hz := zig_neg hn (by simp only [smZ] at * <;> omega)
  rw [sm_B_not, sm_B_lss]
  exact zig_lo hn hz
def f15 : E := (.imp (.and J47 (.not J59)) (.not (.cmp .lss (.ar .shl .u64 J60 (.int 1)) (.int 0))))
theorem fact15 (ρ : Env) : E.B ρ f15 = true := by
  unfold f15
  rw [sm_B_imp]
  simp only [sm_B_and]
  rintro ⟨p0, p1⟩
  have hn : in64 (E.I ρ J45) := in64_nth (i := (.int 1)) p0 (by simp only [smZ] at * <;> omega) (by simp only [smZ] at * <;> omega)
  have hk : E.I ρ (.int 1) = E.I ρ (.int 1) := (by simp only [smZ] at * <;> omega)
  have hg : (nums ρ (.fn 23 (.pr J44 (.fn 23 (.pr J45 (.fn 23 (.pr J46 (.fn 23 (.pr J7 (.fn 10 (.int 0))))))))))).getD (E.I ρ (.int 1)).toNat 0 = E.I ρ J45 := by rw [hk]; exact nums_nth (i := (.int 1)) p0 (by simp only [smZ] at * <;> omega) (by simp only [smZ] at * <;> omega)
  have hz := zig_nn hn (by simp only [smZ] at * <;> omega)
  rw [sm_B_not, sm_B_lss]
  exact zig_lo hn hz
def f16 : E := (.imp (.and J47 J58) (.not (.cmp .lss (.ar .xor .u64 (.int 18446744073709551615) (.ar .shl .u64 J60 (.int 1))) (.int 0))))
theorem fact16 (ρ : Env) : E.B ρ f16 = true := by
  unfold f16
  rw [sm_B_imp]
  simp only [sm_B_and]
  rintro ⟨p0, p1⟩
  have hn : in64 (E.I ρ J45) := in64_nth (i := (.int 1)) p0 (by simp only [smZ] at * <;> omega) (by simp only [smZ] at * <;> omega)
  have hk : E.I ρ (.int 1) = E.I ρ (.int 1) := (by simp only [smZ] at * <;> omega)
  have hg : (nums ρ (.fn 23 (.pr J44 (.fn 23 (.pr J45 (.fn 23 (.pr J46 (.fn 23 (.pr J7 (.fn 10 (.int 0))))))))))).getD (E.I ρ (.int 1)).toNat 0 = E.I ρ J45 := by rw [hk]; exact nums_nth (i := (.int 1)) p0 (by simp only [smZ] at * <;> omega) (by simp only [smZ] at * <;> omega)
  have hz := zig_neg hn (by simp only [smZ] at * <;> omega)
  rw [sm_B_not, sm_B_lss]
  exact zig_lo hn hz
def f17 : E := (.imp (.and J47 J55) (.not (.cmp .lss (.int 18446744073709551615) (.ar .xor .u64 (.int 18446744073709551615) (.ar .shl .u64 J56 (.int 1))))))
theorem fact17 (ρ : Env) : E.B ρ f17 = true := by
  unfold f17
  rw [sm_B_imp]
  simp only [sm_B_and]
  rintro ⟨p0, p1⟩
  have hn : in64 (E.I ρ J44) := in64_nth (i := (.int 0)) p0 (by simp only [smZ] at * <;> omega) (by simp only [smZ] at * <;> omega)
  have hk : E.I ρ (.int 0) = E.I ρ (.int 0) := (by simp only [smZ] at * <;> omega)
  have hg : (nums ρ (.fn 23 (.pr J44 (.fn 23 (.pr J45 (.fn 23 (.pr J46 (.fn 23 (.pr J7 (.fn 10 (.int 0))))))))))).getD (E.I ρ (.int 0)).toNat 0 = E.I ρ J44 := by rw [hk]; exact nums_nth (i := (.int 0)) p0 (by simp only [smZ] at * <;> omega) (by simp only [smZ] at * <;> omega)
  have hz := zig_neg hn (by simp only [smZ] at * <;> omega)
  rw [sm_B_not, sm_B_lss]
  exact zig_hi hn hz
def f18 : E := (.imp (.and J47 (.not J55)) (.not (.cmp .lss (.int 18446744073709551615) (.ar .shl .u64 J56 (.int 1)))))
theorem fact18 (ρ : Env) : E.B ρ f18 = true := by
  unfold f18
  rw [sm_B_imp]
  simp only [sm_B_and]
  rintro ⟨p0, p1⟩
  have hn : in64 (E.I ρ J44) := in64_nth (i := (.int 0)) p0 (by simp only [smZ] at * <;> omega) (by simp only [smZ] at * <;> omega)
  have hk : E.I ρ (.int 0) = E.I ρ (.int 0) := (by simp only [smZ] at * <;> omega)
  have hg : (nums ρ (.fn 23 (.pr J44 (.fn 23 (.pr J45 (.fn 23 (.pr J46 (.fn 23 (.pr J7 (.fn 10 (.int 0))))))))))).getD (E.I ρ (.int 0)).toNat 0 = E.I ρ J44 := by rw [hk]; exact nums_nth (i := (.int 0)) p0 (by simp only [smZ] at * <;> omega) (by simp only [smZ] at * <;> omega)
  have hz := zig_nn hn (by simp only [smZ] at * <;> omega)
  rw [sm_B_not, sm_B_lss]
  exact zig_hi hn hz
def f19 : E := (.imp (.and J47 J54) (.not (.cmp .lss (.int 18446744073709551615) (.ar .xor .u64 (.int 18446744073709551615) (.ar .shl .u64 J56 (.int 1))))))
theorem fact19 (ρ : Env) : E.B ρ f19 = true := by
  unfold f19
  rw [sm_B_imp]
  simp only [sm_B_and]
  rintro ⟨p0, p1⟩
  have hn : in64 (E.I ρ J44) := in64_nth (i := (.int 0)) p0 (by simp only [smZ] at * <;> omega) (by simp only [smZ] at * <;> omega)
  have hk : E.I ρ (.int 0) = E.I ρ (.int 0) := (by simp only [smZ] at * <;> omega)
  have hg : (nums ρ (.fn 23 (.pr J44 (.fn 23 (.pr J45 (.fn 23 (.pr J46 (.fn 23 (.pr J7 (.fn 10 (.int 0))))))))))).getD (E.I ρ (.int 0)).toNat 0 = E.I ρ J44 := by rw [hk]; exact nums_nth (i := (.int 0)) p0 (by simp only [smZ] at * <;> omega) (by simp only [smZ] at * <;> omega)
  have hz := zig_neg hn (by simp only [smZ] at * <;> omega)
  rw [sm_B_not, sm_B_lss]
  exact zig_hi hn hz
def f20 : E := (.imp (.and J47 J59) (.not (.cmp .lss (.int 18446744073709551615) (.ar .xor .u64 (.int 18446744073709551615) (.ar .shl .u64 J60 (.int 1))))))
theorem fact20 (ρ : Env) : E.B ρ f20 = true := by
  unfold f20
  rw [sm_B_imp]
  simp only [sm_B_and]
  rintro ⟨p0, p1⟩
  have hn : in64 (E.I ρ J45) := in64_nth (i := (.int 1)) p0 (by simp only [smZ] at * <;> omega) (by simp only [smZ] at * <;> omega)
  have hk : E.I ρ (.int 1) = E.I ρ (.int 1) := (by simp only [smZ] at * <;> omega)
  have hg : (nums ρ (.fn 23 (.pr J44 (.fn 23 (.pr J45 (.fn 23 (.pr J46 (.fn 23 (.pr J7 (.fn 10 (.int 0))))))))))).getD (E.I ρ (.int 1)).toNat 0 = E.I ρ J45 := by rw [hk]; exact nums_nth (i := (.int 1)) p0 (by simp only [smZ] at * <;> omega) (by simp only [smZ] at * <;> omega)
  have hz := zig_neg hn (by simp only [smZ] at * <;> omega)
  rw [sm_B_not, sm_B_lss]
  exact zig_hi hn hz
def f21 : E := (.imp (.and J47 (.not J59)) (.not (.cmp .lss (.int 18446744073709551615) (.ar .shl .u64 J60 (.int 1)))))
theorem fact21 (ρ : Env) : E.B ρ f21 = true := by
  unfold f21
  rw [sm_B_imp]
  simp only [sm_B_and]
  rintro ⟨p0, p1⟩
  have hn : in64 (E.I ρ J45) := in64_nth (i := (.int 1)) p0 (by simp only [smZ] at * <;> omega) (by simp only [smZ] at * <;> omega)
  have hk : E.I ρ (.int 1) = E.I ρ (.int 1) := (by simp only [smZ] at * <;> omega)
  have hg : (nums ρ (.fn 23 (.pr J44 (.fn 23 (.pr J45 (.fn 23 (.pr J46 (.fn 23 (.pr J7 (.fn 10 (.int 0))))))))))).getD (E.I ρ (.int 1)).toNat 0 = E.I ρ J45 := by rw [hk]; exact nums_nth (i := (.int 1)) p0 (by simp only [smZ] at * <;> omega) (by simp only [smZ] at * <;> omega)
  have hz := zig_nn hn (by simp only [smZ] at * <;> omega)
  rw [sm_B_not, sm_B_lss]
  exact zig_hi hn hz
def f22 : E := (.imp (.and J47 J58) (.not (.cmp .lss (.int 18446744073709551615) (.ar .xor .u64 (.int 18446744073709551615) (.ar .shl .u64 J60 (.int 1))))))
theorem fact22 (ρ : Env) : E.B ρ f22 = true := by
  unfold f22
  rw [sm_B_imp]
  simp only [sm_B_and]
  rintro ⟨p0, p1⟩
  have hn : in64 (E.I ρ J45) := in64_nth (i := (.int 1)) p0 (by simp only [smZ] at * <;> omega) (by simp only [smZ] at * <;> omega)
  have hk : E.I ρ (.int 1) = E.I ρ (.int 1) := (by simp only [smZ] at * <;> omega)
  have hg : (nums ρ (.fn 23 (.pr J44 (.fn 23 (.pr J45 (.fn 23 (.pr J46 (.fn 23 (.pr J7 (.fn 10 (.int 0))))))))))).getD (E.I ρ (.int 1)).toNat 0 = E.I ρ J45 := by rw [hk]; exact nums_nth (i := (.int 1)) p0 (by simp only [smZ] at * <;> omega) (by simp only [smZ] at * <;> omega)
  have hz := zig_neg hn (by simp only [smZ] at * <;> omega)
  rw [sm_B_not, sm_B_lss]
  exact zig_hi hn hz
def f23 : E := (.imp J68 (.not (.cmp .lss J61 (.int 0))))
theorem fact23 (ρ : Env) : E.B ρ f23 = true := by
  unfold f23
  rw [sm_B_imp]
  simp only [sm_B_and]
  rintro ⟨p0, p1, p2⟩
  try simp only [smZ] at *
  have n2 := @fn0_nn ρ J62
  omega
def f24 : E := (.imp (.and J51 (.and J57 (.and J49 (.and (.not J59) J47)))) (.fn 103 (.pr J48 (.pr J18 (.pr J2 (.pr J3 (.pr (.fn 23 (.pr J44 (.fn 23 (.pr J45 (.fn 23 (.pr J46 (.fn 23 (.pr J7 (.fn 10 (.int 0)))))))))) (.pr J50 (.ar .shl .u64 J60 (.int 1))))))))))
theorem fact24 (ρ : Env) : E.B ρ f24 = true := by
  unfold f24
  rw [sm_B_imp]
  simp only [sm_B_and]
  rintro ⟨p0, p1, p2, p3, p4⟩
  have hn : in64 (E.I ρ J45) := in64_nth (i := (.int 1)) p4 (by simp only [smZ] at * <;> omega) (by simp only [smZ] at * <;> omega)
  have hk : E.I ρ J50 = E.I ρ (.int 1) := (by simp only [smZ] at * <;> omega)
  have hg : (nums ρ (.fn 23 (.pr J44 (.fn 23 (.pr J45 (.fn 23 (.pr J46 (.fn 23 (.pr J7 (.fn 10 (.int 0))))))))))).getD (E.I ρ J50).toNat 0 = E.I ρ J45 := by rw [hk]; exact nums_nth (i := (.int 1)) p4 (by simp only [smZ] at * <;> omega) (by simp only [smZ] at * <;> omega)
  have hz := zig_nn hn (by simp only [smZ] at * <;> omega)
  exact t103_start p0 (by simp only [smZ] at * <;> omega) (by simp only [smZ] at * <;> omega) hg hz (hb_t p2)
def f25 : E := (.imp (.and J51 (.and J69 (.and J53 (.and (.not J70) (.and J71 J47))))) (.fn 103 (.pr J48 (.pr (.cmp .lss (.int 2147483647) J46) (.pr J2 (.pr J3 (.pr (.fn 23 (.pr J44 (.fn 23 (.pr J45 (.fn 23 (.pr J46 (.fn 23 (.pr J7 (.fn 10 (.int 0)))))))))) (.pr J50 (.ar .xor .u64 (.int 18446744073709551615) (.ar .shl .u64 J72 (.int 1)))))))))))
theorem fact25 (ρ : Env) : E.B ρ f25 = true := by
  unfold f25
  rw [sm_B_imp]
  simp only [sm_B_and]
  rintro ⟨p0, p1, p2, p3, p4, p5⟩
  have hn : in64 (E.I ρ J46) := in64_nth (i := (.int 2)) p5 (by simp only [smZ] at * <;> omega) (by simp only [smZ] at * <;> omega)
  have hk : E.I ρ J50 = E.I ρ (.int 2) := (by simp only [smZ] at * <;> omega)
  have hg : (nums ρ (.fn 23 (.pr J44 (.fn 23 (.pr J45 (.fn 23 (.pr J46 (.fn 23 (.pr J7 (.fn 10 (.int 0))))))))))).getD (E.I ρ J50).toNat 0 = E.I ρ J46 := by rw [hk]; exact nums_nth (i := (.int 2)) p5 (by simp only [smZ] at * <;> omega) (by simp only [smZ] at * <;> omega)
  have hz := zig_neg hn (by simp only [smZ] at * <;> omega)
  exact t103_start p0 (by simp only [smZ] at * <;> omega) (by simp only [smZ] at * <;> omega) hg hz (hb_hi (by have q := p2; rwa [sm_B_not] at q) (by simp only [smZ] at * <;> omega))
def f26 : E := (.imp (.and J51 (.and J69 (.and J53 (.and (.not J70) (.and (.not J71) J47))))) (.fn 103 (.pr J48 (.pr (.cmp .lss (.int 2147483647) J46) (.pr J2 (.pr J3 (.pr (.fn 23 (.pr J44 (.fn 23 (.pr J45 (.fn 23 (.pr J46 (.fn 23 (.pr J7 (.fn 10 (.int 0)))))))))) (.pr J50 (.ar .shl .u64 J72 (.int 1))))))))))
theorem fact26 (ρ : Env) : E.B ρ f26 = true := by
  unfold f26
  rw [sm_B_imp]
  simp only [sm_B_and]
  rintro ⟨p0, p1, p2, p3, p4, p5⟩
  have hn : in64 (E.I ρ J46) := in64_nth (i := (.int 2)) p5 (by simp only [smZ] at * <;> omega) (by simp only [smZ] at * <;> omega)
  have hk : E.I ρ J50 = E.I ρ (.int 2) := (by simp only [smZ] at * <;> omega)
  have hg : (nums ρ (.fn 23 (.pr J44 (.fn 23 (.pr J45 (.fn 23 (.pr J46 (.fn 23 (.pr J7 (.fn 10 (.int 0))))))))))).getD (E.I ρ J50).toNat 0 = E.I ρ J46 := by rw [hk]; exact nums_nth (i := (.int 2)) p5 (by simp only [smZ] at * <;> omega) (by simp only [smZ] at * <;> omega)
  have hz := zig_nn hn (by simp only [smZ] at * <;> omega)
  exact t103_start p0 (by simp only [smZ] at * <;> omega) (by simp only [smZ] at * <;> omega) hg hz (hb_hi (by have q := p2; rwa [sm_B_not] at q) (by simp only [smZ] at * <;> omega))
def f27 : E := (.imp (.and J51 (.and J69 (.and J70 J47))) (.fn 103 (.pr J48 (.pr J18 (.pr J2 (.pr J3 (.pr (.fn 23 (.pr J44 (.fn 23 (.pr J45 (.fn 23 (.pr J46 (.fn 23 (.pr J7 (.fn 10 (.int 0)))))))))) (.pr J50 (.ar .xor .u64 (.int 18446744073709551615) (.ar .shl .u64 J72 (.int 1)))))))))))
theorem fact27 (ρ : Env) : E.B ρ f27 = true := by
  unfold f27
  rw [sm_B_imp]
  simp only [sm_B_and]
  rintro ⟨p0, p1, p2, p3⟩
  have hn : in64 (E.I ρ J46) := in64_nth (i := (.int 2)) p3 (by simp only [smZ] at * <;> omega) (by simp only [smZ] at * <;> omega)
  have hk : E.I ρ J50 = E.I ρ (.int 2) := (by simp only [smZ] at * <;> omega)
  have hg : (nums ρ (.fn 23 (.pr J44 (.fn 23 (.pr J45 (.fn 23 (.pr J46 (.fn 23 (.pr J7 (.fn 10 (.int 0))))))))))).getD (E.I ρ J50).toNat 0 = E.I ρ J46 := by rw [hk]; exact nums_nth (i := (.int 2)) p3 (by simp only [smZ] at * <;> omega) (by simp only [smZ] at * <;> omega)
  have hz := zig_neg hn (by simp only [smZ] at * <;> omega)
  exact t103_start p0 (by simp only [smZ] at * <;> omega) (by simp only [smZ] at * <;> omega) hg hz (hb_lo (by simp only [smZ] at * <;> omega))
def f28 : E := (.imp (.and J51 (.and J69 (.and J49 (.and J71 J47)))) (.fn 103 (.pr J48 (.pr J18 (.pr J2 (.pr J3 (.pr (.fn 23 (.pr J44 (.fn 23 (.pr J45 (.fn 23 (.pr J46 (.fn 23 (.pr J7 (.fn 10 (.int 0)))))))))) (.pr J50 (.ar .xor .u64 (.int 18446744073709551615) (.ar .shl .u64 J72 (.int 1)))))))))))
theorem fact28 (ρ : Env) : E.B ρ f28 = true := by
  unfold f28
  rw [sm_B_imp]
  simp only [sm_B_and]
  rintro ⟨p0, p1, p2, p3, p4⟩
  have hn : in64 (E.I ρ J46) := in64_nth (i := (.int 2)) p4 (by simp only [smZ] at * <;> omega) (by simp only [smZ] at * <;> omega)
  have hk : E.I ρ J50 = E.I ρ (.int 2) := (by simp only [smZ] at * <;> omega)
  have hg : (nums ρ (.fn 23 (.pr J44 (.fn 23 (.pr J45 (.fn 23 (.pr J46 (.fn 23 (.pr J7 (.fn 10 (.int 0))))))))))).getD (E.I ρ J50).toNat 0 = E.I ρ J46 := by rw [hk]; exact nums_nth (i := (.int 2)) p4 (by simp only [smZ] at * <;> omega) (by simp only [smZ] at * <;> omega)
  have hz := zig_neg hn (by simp only [smZ] at * <;> omega)
  exact t103_start p0 (by simp only [smZ] at * <;> omega) (by simp only [smZ] at * <;> omega) hg hz (hb_t p2)
def f29 : E := (.imp (.and J51 (.and J69 (.and J49 (.and (.not J71) J47)))) (.fn 103 (.pr J48 (.pr J18 (.pr J2 (.pr J3 (.pr (.fn 23 (.pr J44 (.fn 23 (.pr J45 (.fn 23 (.pr J46 (.fn 23 (.pr J7 (.fn 10 (.int 0)))))))))) (.pr J50 (.ar .shl .u64 J72 (.int 1))))))))))
theorem fact29 (ρ : Env) : E.B ρ f29 = true := by
  unfold f29
  rw [sm_B_imp]
  simp only [sm_B_and]
  rintro ⟨p0, p1, p2, p3, p4⟩
  have hn : in64 (E.I ρ J46) := in64_nth (i := (.int 2)) p4 (by simp only [smZ] at * <;> omega) (by simp only [smZ] at * <;> omega)
  have hk : E.I ρ J50 = E.I ρ (.int 2) := (by simp only [smZ] at * <;> omega)
  have hg : (nums ρ (.fn 23 (.pr J44 (.fn 23 (.pr J45 (.fn 23 (.pr J46 (.fn 23 (.pr J7 (.fn 10 (.int 0))))))))))).getD (E.I ρ J50).toNat 0 = E.I ρ J46 := by rw [hk]; exact nums_nth (i := (.int 2)) p4 (by simp only [smZ] at * <;> omega) (by simp only [smZ] at * <;> omega)
  have hz := zig_nn hn (by simp only [smZ] at * <;> omega)
  exact t103_start p0 (by simp only [smZ] at * <;> omega) (by simp only [smZ] at * <;> omega) hg hz (hb_t p2)
def f30 : E := (.imp (.and J73 (.and J74 (.and J51 (.and J66 (.and (.not J52) (.and (.not J57) (.and (.not J69) (.and J53 (.and (.not J75) (.and J76 J47)))))))))) (.fn 103 (.pr J48 (.pr (.cmp .lss (.int 2147483647) J7) (.pr J2 (.pr J3 (.pr (.fn 23 (.pr J44 (.fn 23 (.pr J45 (.fn 23 (.pr J46 (.fn 23 (.pr J7 (.fn 10 (.int 0)))))))))) (.pr J50 (.ar .xor .u64 (.int 18446744073709551615) (.ar .shl .u64 J77 (.int 1)))))))))))
theorem fact30 (ρ : Env) : E.B ρ f30 = true := by
  unfold f30
  rw [sm_B_imp]
  simp only [sm_B_and]
  rintro ⟨p0, p1, p2, p3, p4, p5, p6, p7, p8, p9, p10⟩
  have hn : in64 (E.I ρ J7) := in64_nth (i := (.int 3)) p10 (by simp only [smZ] at * <;> omega) (by simp only [smZ] at * <;> omega)
  have hk : E.I ρ J50 = E.I ρ (.int 3) := (by simp only [smZ] at * <;> omega)
  have hg : (nums ρ (.fn 23 (.pr J44 (.fn 23 (.pr J45 (.fn 23 (.pr J46 (.fn 23 (.pr J7 (.fn 10 (.int 0))))))))))).getD (E.I ρ J50).toNat 0 = E.I ρ J7 := by rw [hk]; exact nums_nth (i := (.int 3)) p10 (by simp only [smZ] at * <;> omega) (by simp only [smZ] at * <;> omega)
  have hz := zig_neg hn (by simp only [smZ] at * <;> omega)
  exact t103_start p2 (by simp only [smZ] at * <;> omega) (by simp only [smZ] at * <;> omega) hg hz (hb_hi (by have q := p7; rwa [sm_B_not] at q) (by simp only [smZ] at * <;> omega))
def f31 : E := (.imp (.and (.not (.cmp .lss (.var 34) J61)) J68) (.not (.cmp .lss (.var 34) (.int 0))))
theorem fact31 (ρ : Env) : E.B ρ f31 = true := by
  unfold f31
  rw [sm_B_imp]
  simp only [sm_B_and]
  rintro ⟨p0, p1, p2, p3⟩
  try simp only [smZ] at *
  have n3 := @fn0_nn ρ J62
  omega
def f32 : E := (.imp (.and J47 J71) (.not (.cmp .lss (.ar .xor .u64 (.int 18446744073709551615) (.ar .shl .u64 J72 (.int 1))) (.int 0))))
theorem fact32 (ρ : Env) : E.B ρ f32 = true := by
  unfold f32
  rw [sm_B_imp]
  simp only [sm_B_and]
  rintro ⟨p0, p1⟩
  have hn : in64 (E.I ρ J46) := in64_nth (i := (.int 2)) p0 (by simp only [smZ] at * <;> omega) (by simp only [smZ] at * <;> omega)
  have hk : E.I ρ (.int 2) = E.I ρ (.int 2) := (by simp only [smZ] at * <;> omega)
  have hg : (nums ρ (.fn 23 (.pr J44 (.fn 23 (.pr J45 (.fn 23 (.pr J46 (.fn 23 (.pr J7 (.fn 10 (.int 0))))))))))).getD (E.I ρ (.int 2)).toNat 0 = E.I ρ J46 := by rw [hk]; exact nums_nth (i := (.int 2)) p0 (by simp only [smZ] at * <;> omega) (by simp only [smZ] at * <;> omega)
  have hz := zig_neg hn (by simp only [smZ] at * <;> omega)
  rw [sm_B_not, sm_B_lss]
  exact zig_lo hn hz
def f33 : E := (.imp (.and J47 (.not J71)) (.not (.cmp .lss (.ar .shl .u64 J72 (.int 1)) (.int 0))))
theorem fact33 (ρ : Env) : E.B ρ f33 = true := by
  unfold f33
  rw [sm_B_imp]
  simp only [sm_B_and]
  rintro ⟨p0, p1⟩
  have hn : in64 (E.I ρ J46) := in64_nth (i := (.int 2)) p0 (by simp only [smZ] at * <;> omega) (by simp only [smZ] at * <;> omega)
  have hk : E.I ρ (.int 2) = E.I ρ (.int 2) := (by simp only [smZ] at * <;> omega)
  have hg : (nums ρ (.fn 23 (.pr J44 (.fn 23 (.pr J45 (.fn 23 (.pr J46 (.fn 23 (.pr J7 (.fn 10 (.int 0))))))))))).getD (E.I ρ (.int 2)).toNat 0 = E.I ρ J46 := by rw [hk]; exact nums_nth (i := (.int 2)) p0 (by simp only [smZ] at * <;> omega) (by simp only [smZ] at * <;> omega)
  have hz := zig_nn hn (by simp only [smZ] at * <;> omega)
  rw [sm_B_not, sm_B_lss]
  exact zig_lo hn hz
def f34 : E := (.imp (.and J47 J70) (.not (.cmp .lss (.ar .xor .u64 (.int 18446744073709551615) (.ar .shl .u64 J72 (.int 1))) (.int 0))))
theorem fact34 (ρ : Env) : E.B ρ f34 = true := by
  unfold f34
  rw [sm_B_imp]
  simp only [sm_B_and]
  rintro ⟨p0, p1⟩
  have hn : in64 (E.I ρ J46) := in64_nth (i := (.int 2)) p0 (by simp only [smZ] at * <;> omega) (by simp only [smZ] at * <;> omega)
  have hk : E.I ρ (.int 2) = E.I ρ (.int 2) := (by simp only [smZ] at * <;> omega)
  have hg : (nums ρ (.fn 23 (.pr J44 (.fn 23 (.pr J45 (.fn 23 (.pr J46 (.fn 23 (.pr J7 (.fn 10 (.int 0))))))))))).getD (E.I ρ (.int 2)).toNat 0 = E.I ρ J46 := by rw [hk]; exact nums_nth (i := (.int 2)) p0 (by simp only [smZ] at * <;> omega) (by simp only [smZ] at * <;> omega)
  have hz := zig_neg hn (by simp only [smZ] at * <;> omega)
  rw [sm_B_not, sm_B_lss]
  exact zig_lo hn hz
def f35 : E := (.imp (.and J47 J76) (.not (.cmp .lss (.ar .xor .u64 (.int 18446744073709551615) (.ar .shl .u64 J77 (.int 1))) (.int 0))))
theorem fact35 (ρ : Env) : E.B ρ f35 = true := by
  unfold f35
  rw [sm_B_imp]
  simp only [sm_B_and]
  rintro ⟨p0, p1⟩
  have hn : in64 (E.I ρ J7) := in64_nth (i := (.int 3)) p0 (by simp only [smZ] at * <;> omega) (by simp only [smZ] at * <;> omega)
  have hk : E.I ρ (.int 3) = E.I ρ (.int 3) := (by simp only [smZ] at * <;> omega)
  have hg : (nums ρ (.fn 23 (.pr J44 (.fn 23 (.pr J45 (.fn 23 (.pr J46 (.fn 23 (.pr J7 (.fn 10 (.int 0))))))))))).getD (E.I ρ (.int 3)).toNat 0 = E.I ρ J7 := by rw [hk]; exact nums_nth (i := (.int 3)) p0 (by simp only [smZ] at * <;> omega) (by simp only [smZ] at * <;> omega)
  have hz := zig_neg hn (by simp only [smZ] at * <;> omega)
  rw [sm_B_not, sm_B_lss]
  exact zig_lo hn hz
def f36 : E := (.imp (.and (.not (.cmp .lss J61 J4)) (.and J63 (.and J65 (.and J66 (.and J74 (.and J47 J30)))))) (.not (.cmp .lss (.int 2147483648) (.fn 6 (.pr J61 (.int 1))))))
theorem fact36 (ρ : Env) : E.B ρ f36 = true := by
  unfold f36
  rw [sm_B_imp]
  simp only [sm_B_and]
  rintro ⟨p0, p1, p2, p3, p4, p5, p6, p7, p8⟩
  have hl2 := t103_len p2 p5 (by simp only [smZ] at * <;> omega) (by simp only [smZ] at * <;> omega)
  try simp only [smZ] at *
  have n3 := @fn0_nn ρ J62
  have n5 := @fn0_nn ρ J2
  omega
def f37 : E := (.imp (.and J47 J71) (.not (.cmp .lss (.int 18446744073709551615) (.ar .xor .u64 (.int 18446744073709551615) (.ar .shl .u64 J72 (.int 1))))))
theorem fact37 (ρ : Env) : E.B ρ f37 = true := by
  unfold f37
  rw [sm_B_imp]
  simp only [sm_B_and]
  rintro ⟨p0, p1⟩
  have hn : in64 (E.I ρ J46) := in64_nth (i := (.int 2)) p0 (by simp only [smZ] at * <;> omega) (by simp only [smZ] at * <;> omega)
  have hk : E.I ρ (.int 2) = E.I ρ (.int 2) := (by simp only [smZ] at * <;> omega)
  have hg : (nums ρ (.fn 23 (.pr J44 (.fn 23 (.pr J45 (.fn 23 (.pr J46 (.fn 23 (.pr J7 (.fn 10 (.int 0))))))))))).getD (E.I ρ (.int 2)).toNat 0 = E.I ρ J46 := by rw [hk]; exact nums_nth (i := (.int 2)) p0 (by simp only [smZ] at * <;> omega) (by simp only [smZ] at * <;> omega)
  have hz := zig_neg hn (by simp only [smZ] at * <;> omega)
  rw [sm_B_not, sm_B_lss]
  exact zig_hi hn hz
def f38 : E := (.imp (.and J47 (.not J71)) (.not (.cmp .lss (.int 18446744073709551615) (.ar .shl .u64 J72 (.int 1)))))
theorem fact38 (ρ : Env) : E.B ρ f38 = true := by
  unfold f38
  rw [sm_B_imp]
  simp only [sm_B_and]
  rintro ⟨p0, p1⟩
  have hn : in64 (E.I ρ J46) := in64_nth (i := (.int 2)) p0 (by simp only [smZ] at * <;> omega) (by simp only [smZ] at * <;> omega)
  have hk : E.I ρ (.int 2) = E.I ρ (.int 2) := (by simp only [smZ] at * <;> omega)
  have hg : (nums ρ (.fn 23 (.pr J44 (.fn 23 (.pr J45 (.fn 23 (.pr J46 (.fn 23 (.pr J7 (.fn 10 (.int 0))))))))))).getD (E.I ρ (.int 2)).toNat 0 = E.I ρ J46 := by rw [hk]; exact nums_nth (i := (.int 2)) p0 (by simp only [smZ] at * <;> omega) (by simp only [smZ] at * <;> omega)
  have hz := zig_nn hn (by simp only [smZ] at * <;> omega)
  rw [sm_B_not, sm_B_lss]
  exact zig_hi hn hz
def f39 : E := (.imp (.and J47 J70) (.not (.cmp .lss (.int 18446744073709551615) (.ar .xor .u64 (.int 18446744073709551615) (.ar .shl .u64 J72 (.int 1))))))
theorem fact39 (ρ : Env) : E.B ρ f39 = true := by
  unfold f39
  rw [sm_B_imp]
  simp only [sm_B_and]
  rintro ⟨p0, p1⟩
  have hn : in64 (E.I ρ J46) := in64_nth (i := (.int 2)) p0 (by simp only [smZ] at * <;> omega) (by simp only [smZ] at * <;> omega)
  have hk : E.I ρ (.int 2) = E.I ρ (.int 2) := (by simp only [smZ] at * <;> omega)
  have hg : (nums ρ (.fn 23 (.pr J44 (.fn 23 (.pr J45 (.fn 23 (.pr J46 (.fn 23 (.pr J7 (.fn 10 (.int 0))))))))))).getD (E.I ρ (.int 2)).toNat 0 = E.I ρ J46 := by rw [hk]; exact nums_nth (i := (.int 2)) p0 (by simp only [smZ] at * <;> omega) (by simp only [smZ] at * <;> omega)
  have hz := zig_neg hn (by simp only [smZ] at * <;> omega)
  rw [sm_B_not, sm_B_lss]
  exact zig_hi hn hz
def f40 : E := (.imp (.and J47 J76) (.not (.cmp .lss (.int 18446744073709551615) (.ar .xor .u64 (.int 18446744073709551615) (.ar .shl .u64 J77 (.int 1))))))
theorem fact40 (ρ : Env) : E.B ρ f40 = true := by
  unfold f40
  rw [sm_B_imp]
  simp only [sm_B_and]
  rintro ⟨p0, p1⟩
  have hn : in64 (E.I ρ J7) := in64_nth (i := (.int 3)) p0 (by simp only [smZ] at * <;> omega) (by simp only [smZ] at * <;> omega)
  have hk : E.I ρ (.int 3) = E.I ρ (.int 3) := (by simp only [smZ] at * <;> omega)
  have hg : (nums ρ (.fn 23 (.pr J44 (.fn 23 (.pr J45 (.fn 23 (.pr J46 (.fn 23 (.pr J7 (.fn 10 (.int 0))))))))))).getD (E.I ρ (.int 3)).toNat 0 = E.I ρ J7 := by rw [hk]; exact nums_nth (i := (.int 3)) p0 (by simp only [smZ] at * <;> omega) (by simp only [smZ] at * <;> omega)
  have hz := zig_neg hn (by simp only [smZ] at * <;> omega)
  rw [sm_B_not, sm_B_lss]
  exact zig_hi hn hz
def f41 : E := (.imp (.and J79 (.and J81 (.and J65 (.and J66 (.and J74 (.and J82 J47)))))) (.fn 103 (.pr (.fn 3 (.pr J62 (.fn 23 (.pr (.ar .or .u8 (.wr .u8 J64) (.int 128)) (.fn 10 (.int 0)))))) (.pr (.var 35) (.pr J2 (.pr J3 (.pr (.fn 23 (.pr J44 (.fn 23 (.pr J45 (.fn 23 (.pr J46 (.fn 23 (.pr J7 (.fn 10 (.int 0)))))))))) (.pr J50 (.ar .shr .u64 J64 (.int 7))))))))))
theorem fact41 (ρ : Env) : E.B ρ f41 = true := by
  unfold f41
  rw [sm_B_imp]
  simp only [sm_B_and]
  rintro ⟨p0, p1, p2, p3, p4, p5, p6⟩
  have g0 : (0) ≤ E.I ρ J64 := by
    try simp only [smZ] at *
    omega
  exact t103_step p2 (by simp only [smZ] at * <;> omega) (I_or g0) I_shr
def f42 : E := (.imp (.and J79 (.and J81 (.and J65 (.and J66 (.and J74 (.and (.not J82) J47)))))) (.fn 101 (.pr (.fn 3 (.pr J62 (.fn 23 (.pr (.wr .u8 J64) (.fn 10 (.int 0)))))) (.pr (.var 35) (.pr J2 (.pr J3 (.pr (.int 0) (.pr (.fn 23 (.pr J44 (.fn 23 (.pr J45 (.fn 23 (.pr J46 (.fn 23 (.pr J7 (.fn 10 (.int 0)))))))))) J83))))))))
theorem fact42 (ρ : Env) : E.B ρ f42 = true := by
  unfold f42
  rw [sm_B_imp]
  simp only [sm_B_and]
  rintro ⟨p0, p1, p2, p3, p4, p5, p6⟩
  obtain ⟨g0, g1, g2⟩ : (0) ≤ E.I ρ J64 ∧ E.I ρ J64 < (128) ∧ E.I ρ J83 = E.I ρ (.fn 6 (.pr J50 (.int 1))) := by
    try simp only [smZ] at *
    obtain ⟨a2, ea2, qa2⟩ := cs_i64 ((E.I ρ J50) + (1))
    try simp only [ea2] at *
    omega
  exact t103_end p2 g1 g0 (I_wr8 g0 g1) (by simp only [smZ] at * <;> omega) (by simp only [smZ] at * <;> omega) g2
def f43 : E := (.imp (.and J73 (.and J74 (.and J51 (.and J66 (.and (.not J52) (.and (.not J57) (.and (.not J69) (.and J53 (.and (.not J75) (.and (.not J76) J47)))))))))) (.fn 103 (.pr J48 (.pr (.cmp .lss (.int 2147483647) J7) (.pr J2 (.pr J3 (.pr (.fn 23 (.pr J44 (.fn 23 (.pr J45 (.fn 23 (.pr J46 (.fn 23 (.pr J7 (.fn 10 (.int 0)))))))))) (.pr J50 (.ar .shl .u64 J77 (.int 1))))))))))
theorem fact43 (ρ : Env) : E.B ρ f43 = true := by
  unfold f43
  rw [sm_B_imp]
  simp only [sm_B_and]
  rintro ⟨p0, p1, p2, p3, p4, p5, p6, p7, p8, p9, p10⟩
  have hn : in64 (E.I ρ J7) := in64_nth (i := (.int 3)) p10 (by simp only [smZ] at * <;> omega) (by simp only [smZ] at * <;> omega)
  have hk : E.I ρ J50 = E.I ρ (.int 3) := (by simp only [smZ] at * <;> omega)
  have hg : (nums ρ (.fn 23 (.pr J44 (.fn 23 (.pr J45 (.fn 23 (.pr J46 (.fn 23 (.pr J7 (.fn 10 (.int 0))))))))))).getD (E.I ρ J50).toNat 0 = E.I ρ J7 := by rw [hk]; exact nums_nth (i := (.int 3)) p10 (by simp only [smZ] at * <;> omega) (by simp only [smZ] at * <;> omega)
  have hz := zig_nn hn (by simp only [smZ] at * <;> omega)
  exact t103_start p2 (by simp only [smZ] at * <;> omega) (by simp only [smZ] at * <;> omega) hg hz (hb_hi (by have q := p7; rwa [sm_B_not] at q) (by simp only [smZ] at * <;> omega))
def f44 : E := (.imp (.and J73 (.and J74 (.and J51 (.and J66 (.and (.not J52) (.and (.not J57) (.and (.not J69) (.and J75 J47)))))))) (.fn 103 (.pr J48 (.pr J18 (.pr J2 (.pr J3 (.pr (.fn 23 (.pr J44 (.fn 23 (.pr J45 (.fn 23 (.pr J46 (.fn 23 (.pr J7 (.fn 10 (.int 0)))))))))) (.pr J50 (.ar .xor .u64 (.int 18446744073709551615) (.ar .shl .u64 J77 (.int 1)))))))))))
theorem fact44 (ρ : Env) : E.B ρ f44 = true := by
  unfold f44
  rw [sm_B_imp]
  simp only [sm_B_and]
  rintro ⟨p0, p1, p2, p3, p4, p5, p6, p7, p8⟩
  have hn : in64 (E.I ρ J7) := in64_nth (i := (.int 3)) p8 (by simp only [smZ] at * <;> omega) (by simp only [smZ] at * <;> omega)
  have hk : E.I ρ J50 = E.I ρ (.int 3) := (by simp only [smZ] at * <;> omega)
  have hg : (nums ρ (.fn 23 (.pr J44 (.fn 23 (.pr J45 (.fn 23 (.pr J46 (.fn 23 (.pr J7 (.fn 10 (.int 0))))))))))).getD (E.I ρ J50).toNat 0 = E.I ρ J7 := by rw [hk]; exact nums_nth (i := (.int 3)) p8 (by simp only [smZ] at * <;> omega) (by simp only [smZ] at * <;> omega)
  have hz := zig_neg hn (by simp only [smZ] at * <;> omega)
  exact t103_start p2 (by simp only [smZ] at * <;> omega) (by simp only [smZ] at * <;> omega) hg hz (hb_lo (by simp only [smZ] at * <;> omega))
def f45 : E := (.imp (.and J73 (.and J74 (.and J51 (.and J66 (.and (.not J52) (.and (.not J57) (.and (.not J69) (.and J49 (.and J76 J47))))))))) (.fn 103 (.pr J48 (.pr J18 (.pr J2 (.pr J3 (.pr (.fn 23 (.pr J44 (.fn 23 (.pr J45 (.fn 23 (.pr J46 (.fn 23 (.pr J7 (.fn 10 (.int 0)))))))))) (.pr J50 (.ar .xor .u64 (.int 18446744073709551615) (.ar .shl .u64 J77 (.int 1)))))))))))
theorem fact45 (ρ : Env) : E.B ρ f45 = true := by
  unfold f45
  rw [sm_B_imp]
  simp only [sm_B_and]
  rintro ⟨p0, p1, p2, p3, p4, p5, p6, p7, p8, p9⟩
  have hn : in64 (E.I ρ J7) := in64_nth (i := (.int 3)) p9 (by simp only [smZ] at * <;> omega) (by simp only [smZ] at * <;> omega)
  have hk : E.I ρ J50 = E.I ρ (.int 3) := (by simp only [smZ] at * <;> omega)
  have hg : (nums ρ (.fn 23 (.pr J44 (.fn 23 (.pr J45 (.fn 23 (.pr J46 (.fn 23 (.pr J7 (.fn 10 (.int 0))))))))))).getD (E.I ρ J50).toNat 0 = E.I ρ J7 := by rw [hk]; exact nums_nth (i := (.int 3)) p9 (by simp only [smZ] at * <;> omega) (by simp only [smZ] at * <;> omega)
  have hz := zig_neg hn (by simp only [smZ] at * <;> omega)
  exact t103_start p2 (by simp only [smZ] at * <;> omega) (by simp only [smZ] at * <;> omega) hg hz (hb_t p7)
def f46 : E := (.imp (.and J73 (.and J74 (.and J51 (.and J66 (.and (.not J52) (.and (.not J57) (.and (.not J69) (.and J49 (.and (.not J76) J47))))))))) (.fn 103 (.pr J48 (.pr J18 (.pr J2 (.pr J3 (.pr (.fn 23 (.pr J44 (.fn 23 (.pr J45 (.fn 23 (.pr J46 (.fn 23 (.pr J7 (.fn 10 (.int 0)))))))))) (.pr J50 (.ar .shl .u64 J77 (.int 1))))))))))
theorem fact46 (ρ : Env) : E.B ρ f46 = true := by
  unfold f46
  rw [sm_B_imp]
  simp only [sm_B_and]
  rintro ⟨p0, p1, p2, p3, p4, p5, p6, p7, p8, p9⟩
  have hn : in64 (E.I ρ J7) := in64_nth (i := (.int 3)) p9 (by simp only [smZ] at * <;> omega) (by simp only [smZ] at * <;> omega)
  have hk : E.I ρ J50 = E.I ρ (.int 3) := (by simp only [smZ] at * <;> omega)
  have hg : (nums ρ (.fn 23 (.pr J44 (.fn 23 (.pr J45 (.fn 23 (.pr J46 (.fn 23 (.pr J7 (.fn 10 (.int 0))))))))))).getD (E.I ρ J50).toNat 0 = E.I ρ J7 := by rw [hk]; exact nums_nth (i := (.int 3)) p9 (by simp only [smZ] at * <;> omega) (by simp only [smZ] at * <;> omega)
  have hz := zig_nn hn (by simp only [smZ] at * <;> omega)
  exact t103_start p2 (by simp only [smZ] at * <;> omega) (by simp only [smZ] at * <;> omega) hg hz (hb_t p7)
def f47 : E := (.imp (.and J73 (.and J74 (.and J51 (.not J66)))) (.fn 101 (.pr J48 (.pr J49 (.pr J2 (.pr J3 (.pr (.int 0) (.pr (.fn 23 (.pr J44 (.fn 23 (.pr J45 (.fn 23 (.pr J46 (.fn 23 (.pr J7 (.fn 10 (.int 0)))))))))) (.int 4)))))))))
theorem fact47 (ρ : Env) : E.B ρ f47 = true := by
  unfold f47
  rw [sm_B_imp]
  simp only [sm_B_and]
  rintro ⟨p0, p1, p2, p3⟩
  have g0 : (4) = E.I ρ J50 := by
    try simp only [smZ] at *
    omega
  exact t101_eq p2 g0
def f48 : E := (.imp J68 (.cmp .eql (.fn 6 (.pr J61 (.int 1))) (.fn 6 (.pr (.fn 0 J62) (.int 1)))))
theorem fact48 (ρ : Env) : E.B ρ f48 = true := by
  unfold f48
  rw [sm_B_imp]
  simp only [sm_B_and]
  rintro ⟨p0, p1, p2⟩
  try simp only [smZ] at *
  omega
def f49 : E := (.imp J84 (.not (.cmp .lss J83 (.int 0))))
theorem fact49 (ρ : Env) : E.B ρ f49 = true := by
  unfold f49
  rw [sm_B_imp]
  simp only [sm_B_and]
  rintro ⟨p0, p1, p2⟩
  try simp only [smZ] at *
  obtain ⟨a1, ea1, qa1⟩ := cs_i64 ((E.I ρ J50) + (1))
  try simp only [ea1] at *
  omega
def f50 : E := (.imp (.and J47 (.not J76)) (.not (.cmp .lss (.ar .shl .u64 J77 (.int 1)) (.int 0))))
theorem fact50 (ρ : Env) : E.B ρ f50 = true := by
  unfold f50
  rw [sm_B_imp]
  simp only [sm_B_and]
  rintro ⟨p0, p1⟩
  have hn : in64 (E.I ρ J7) := in64_nth (i := (.int 3)) p0 (by simp only [smZ] at * <;> omega) (by simp only [smZ] at * <;> omega)
  have hk : E.I ρ (.int 3) = E.I ρ (.int 3) := (by simp only [smZ] at * <;> omega)
  have hg : (nums ρ (.fn 23 (.pr J44 (.fn 23 (.pr J45 (.fn 23 (.pr J46 (.fn 23 (.pr J7 (.fn 10 (.int 0))))))))))).getD (E.I ρ (.int 3)).toNat 0 = E.I ρ J7 := by rw [hk]; exact nums_nth (i := (.int 3)) p0 (by simp only [smZ] at * <;> omega) (by simp only [smZ] at * <;> omega)
  have hz := zig_nn hn (by simp only [smZ] at * <;> omega)
  rw [sm_B_not, sm_B_lss]
  exact zig_lo hn hz
def f51 : E := (.imp (.and J47 J75) (.not (.cmp .lss (.ar .xor .u64 (.int 18446744073709551615) (.ar .shl .u64 J77 (.int 1))) (.int 0))))
theorem fact51 (ρ : Env) : E.B ρ f51 = true := by
  unfold f51
  rw [sm_B_imp]
  simp only [sm_B_and]
  rintro ⟨p0, p1⟩
  have hn : in64 (E.I ρ J7) := in64_nth (i := (.int 3)) p0 (by simp only [smZ] at * <;> omega) (by simp only [smZ] at * <;> omega)
  have hk : E.I ρ (.int 3) = E.I ρ (.int 3) := (by simp only [smZ] at * <;> omega)
  have hg : (nums ρ (.fn 23 (.pr J44 (.fn 23 (.pr J45 (.fn 23 (.pr J46 (.fn 23 (.pr J7 (.fn 10 (.int 0))))))))))).getD (E.I ρ (.int 3)).toNat 0 = E.I ρ J7 := by rw [hk]; exact nums_nth (i := (.int 3)) p0 (by simp only [smZ] at * <;> omega) (by simp only [smZ] at * <;> omega)
  have hz := zig_neg hn (by simp only [smZ] at * <;> omega)
  rw [sm_B_not, sm_B_lss]
  exact zig_lo hn hz
def f52 : E := (.imp (.and (.not (.cmp .lss (.fn 6 (.pr J4 (.fn 8 (.pr (.int 10) J50)))) J85)) (.and (.not (.cmp .lss J85 J4)) (.and (.cmp .eql J85 (.fn 0 J48)) (.and J73 (.and J74 (.and (.not J66) J23)))))) (.not (.cmp .lss (.fn 6 (.pr J4 (.fn 8 (.pr (.int 10) (.int 4))))) J85)))
theorem fact52 (ρ : Env) : E.B ρ f52 = true := by
  unfold f52
  rw [sm_B_imp]
  simp only [sm_B_and]
  rintro ⟨p0, p1, p2, p3, p4, p5, p6⟩
  try simp only [smZ] at *
  omega
def f53 : E := (.imp (.and (.not (.cmp .lss J61 J4)) J67) (.not (.cmp .lss (.fn 6 (.pr J61 (.int 1))) J4)))
theorem fact53 (ρ : Env) : E.B ρ f53 = true := by
  unfold f53
  rw [sm_B_imp]
  simp only [sm_B_and]
  rintro ⟨p0, p1, p2⟩
  try simp only [smZ] at *
  omega
def f54 : E := (.imp J84 (.not (.cmp .lss (.int 4) J83)))
theorem fact54 (ρ : Env) : E.B ρ f54 = true := by
  unfold f54
  rw [sm_B_imp]
  simp only [sm_B_and]
  rintro ⟨p0, p1, p2⟩
  try simp only [smZ] at *
  obtain ⟨a1, ea1, qa1⟩ := cs_i64 ((E.I ρ J50) + (1))
  try simp only [ea1] at *
  omega
def f55 : E := (.imp (.and J47 (.not J76)) (.not (.cmp .lss (.int 18446744073709551615) (.ar .shl .u64 J77 (.int 1)))))
theorem fact55 (ρ : Env) : E.B ρ f55 = true := by
  unfold f55
  rw [sm_B_imp]
  simp only [sm_B_and]
  rintro ⟨p0, p1⟩
  have hn : in64 (E.I ρ J7) := in64_nth (i := (.int 3)) p0 (by simp only [smZ] at * <;> omega) (by simp only [smZ] at * <;> omega)
  have hk : E.I ρ (.int 3) = E.I ρ (.int 3) := (by simp only [smZ] at * <;> omega)
  have hg : (nums ρ (.fn 23 (.pr J44 (.fn 23 (.pr J45 (.fn 23 (.pr J46 (.fn 23 (.pr J7 (.fn 10 (.int 0))))))))))).getD (E.I ρ (.int 3)).toNat 0 = E.I ρ J7 := by rw [hk]; exact nums_nth (i := (.int 3)) p0 (by simp only [smZ] at * <;> omega) (by simp only [smZ] at * <;> omega)
  have hz := zig_nn hn (by simp only [smZ] at * <;> omega)
  rw [sm_B_not, sm_B_lss]
  exact zig_hi hn hz
def f56 : E := (.imp (.and J47 J75) (.not (.cmp .lss (.int 18446744073709551615) (.ar .xor .u64 (.int 18446744073709551615) (.ar .shl .u64 J77 (.int 1))))))
theorem fact56 (ρ : Env) : E.B ρ f56 = true := by
  unfold f56
  rw [sm_B_imp]
  simp only [sm_B_and]
  rintro ⟨p0, p1⟩
  have hn : in64 (E.I ρ J7) := in64_nth (i := (.int 3)) p0 (by simp only [smZ] at * <;> omega) (by simp only [smZ] at * <;> omega)
  have hk : E.I ρ (.int 3) = E.I ρ (.int 3) := (by simp only [smZ] at * <;> omega)
  have hg : (nums ρ (.fn 23 (.pr J44 (.fn 23 (.pr J45 (.fn 23 (.pr J46 (.fn 23 (.pr J7 (.fn 10 (.int 0))))))))))).getD (E.I ρ (.int 3)).toNat 0 = E.I ρ J7 := by rw [hk]; exact nums_nth (i := (.int 3)) p0 (by simp only [smZ] at * <;> omega) (by simp only [smZ] at * <;> omega)
  have hz := zig_neg hn (by simp only [smZ] at * <;> omega)
  rw [sm_B_not, sm_B_lss]
  exact zig_hi hn hz
def f57 : E := (.imp J89 (.not (.cmp .lss (.ar .shr .u64 J64 (.int 7)) (.int 0))))
theorem fact57 (ρ : Env) : E.B ρ f57 = true := by
  unfold f57
  rw [sm_B_imp]
  simp only [sm_B_and]
  rintro ⟨p0, p1, p2, p3, p4, p5⟩
  try simp only [smZ] at *
  omega
def f58 : E := (.imp J89 (.not (.cmp .lss (.int 18446744073709551615) (.ar .shr .u64 J64 (.int 7)))))
theorem fact58 (ρ : Env) : E.B ρ f58 = true := by
  unfold f58
  rw [sm_B_imp]
  simp only [sm_B_and]
  rintro ⟨p0, p1, p2, p3, p4, p5⟩
  try simp only [smZ] at *
  omega
def f59 : E := (.imp J89 (.cmp .lss (.ar .shr .u64 J64 (.int 7)) J64))
theorem fact59 (ρ : Env) : E.B ρ f59 = true := by
  unfold f59
  rw [sm_B_imp]
  simp only [sm_B_and]
  rintro ⟨p0, p1, p2, p3, p4, p5⟩
  try simp only [smZ] at *
  omega
def f60 : E := (.imp (.and J63 (.and J65 (.and J66 (.and J74 (.and J47 J23))))) (.not (.cmp .lss (.fn 6 (.pr J4 (.fn 8 (.pr (.int 10) J83)))) (.fn 6 (.pr J61 (.int 1))))))
theorem fact60 (ρ : Env) : E.B ρ f60 = true := by
  unfold f60
  rw [sm_B_imp]
  simp only [sm_B_and]
  rintro ⟨p0, p1, p2, p3, p4, p5⟩
  have hl1 := t103_len p1 p4 (by simp only [smZ] at * <;> omega) (by simp only [smZ] at * <;> omega)
  try simp only [smZ] at *
  have n2 := @fn0_nn ρ J62
  have n5 := @fn0_nn ρ J2
  obtain ⟨a5, ea5, qa5⟩ := cs_i64 ((E.I ρ J50) + (1))
  try simp only [ea5] at *
  omega
def f61 : E := (.imp J84 (.cmp .lss (.fn 7 (.pr (.int 4) J83)) (.fn 7 (.pr (.int 4) J50))))
theorem fact61 (ρ : Env) : E.B ρ f61 = true := by
  unfold f61
  rw [sm_B_imp]
  simp only [sm_B_and]
  rintro ⟨p0, p1, p2⟩
  try simp only [smZ] at *
  obtain ⟨a1, ea1, qa1⟩ := cs_i64 ((E.I ρ J50) + (1))
  try simp only [ea1] at *
  omega
def f62 : E := (.imp J84 (.not (.cmp .lss (.fn 7 (.pr (.int 4) J83)) (.int 0))))
theorem fact62 (ρ : Env) : E.B ρ f62 = true := by
  unfold f62
  rw [sm_B_imp]
  simp only [sm_B_and]
  rintro ⟨p0, p1, p2⟩
  try simp only [smZ] at *
  obtain ⟨a1, ea1, qa1⟩ := cs_i64 ((E.I ρ J50) + (1))
  try simp only [ea1] at *
  omega
def facts : List E := [f0, f1, f2, f3, f4, f5, f6, f7, f8, f9, f10, f11, f12, f13, f14, f15, f16, f17, f18, f19, f20, f21, f22, f23, f24, f25, f26, f27, f28, f29, f30, f31, f32, f33, f34, f35, f36, f37, f38, f39, f40, f41, f42, f43, f44, f45, f46, f47, f48, f49, f50, f51, f52, f53, f54, f55, f56, f57, f58, f59, f60, f61, f62]
theorem facts_ok : ∀ e ∈ facts, ∀ ρ : Env, E.B ρ e = true := (all_cons fact0 (all_cons fact1 (all_cons fact2 (all_cons fact3 (all_cons fact4 (all_cons fact5 (all_cons fact6 (all_cons fact7 (all_cons fact8 (all_cons fact9 (all_cons fact10 (all_cons fact11 (all_cons fact12 (all_cons fact13 (all_cons fact14 (all_cons fact15 (all_cons fact16 (all_cons fact17 (all_cons fact18 (all_cons fact19 (all_cons fact20 (all_cons fact21 (all_cons fact22 (all_cons fact23 (all_cons fact24 (all_cons fact25 (all_cons fact26 (all_cons fact27 (all_cons fact28 (all_cons fact29 (all_cons fact30 (all_cons fact31 (all_cons fact32 (all_cons fact33 (all_cons fact34 (all_cons fact35 (all_cons fact36 (all_cons fact37 (all_cons fact38 (all_cons fact39 (all_cons fact40 (all_cons fact41 (all_cons fact42 (all_cons fact43 (all_cons fact44 (all_cons fact45 (all_cons fact46 (all_cons fact47 (all_cons fact48 (all_cons fact49 (all_cons fact50 (all_cons fact51 (all_cons fact52 (all_cons fact53 (all_cons fact54 (all_cons fact55 (all_cons fact56 (all_cons fact57 (all_cons fact58 (all_cons fact59 (all_cons fact60 (all_cons fact61 (all_cons fact62 all_nil)))))))))))))))))))))))))))))))))))))))))))))))))))))))))))))))
end p6
set_option maxRecDepth 100000 in
theorem spec6_0 : NatOk Try.prog (specNat (spM)) :=
  spec_of_check good (facts := p6.facts) p6.facts_ok (anns := annM) (plainAnns_ok _ (by kernel_rfl)) (nats := natl7) natl7_ok (n := 3000) (by kernel_rfl)
def natl8 : List Nat1 := specNat (spM) :: natl7
theorem natl8_ok : ∀ x ∈ natl8, NatOk Try.prog x := by
  intro x hx
  rcases List.mem_cons.1 hx with rfl | hx
  · exact spec6_0
  exact natl7_ok x hx

namespace p7
def f0 : E := (.imp (.and (.not J2) (.and (.not J90) (.and J91 J94))) (.fn 103 (.pr (.fn 10 (.int 0)) (.pr J95 (.pr (.fn 10 (.int 0)) (.pr J2 (.pr J4 (.pr (.int 0) (.ar .xor .u64 (.int 18446744073709551615) (.ar .shl .u64 J96 (.int 1)))))))))))
theorem fact0 (ρ : Env) : E.B ρ f0 = true := by
  unfold f0
  rw [sm_B_imp]
  simp only [sm_B_and]
  rintro ⟨p0, p1, p2, p3, p4⟩
  have hn := in64_nth (i := (.int 0)) p4 (by simp only [smZ] at * <;> omega) (by simp only [smZ] at * <;> omega)
  have hg := nums_nth (i := (.int 0)) p4 (by simp only [smZ] at * <;> omega) (by simp only [smZ] at * <;> omega)
  have hz := zig_neg hn (by simp only [smZ] at * <;> omega)
  exact t103_start (t101_zero (i := (.int 0)) (by simp only [smZ] at * <;> omega)) (by simp only [smZ] at * <;> omega) (by simp only [smZ] at * <;> omega) hg hz (hb_hi (by have q := p0; rwa [sm_B_not] at q) (by simp only [smZ] at * <;> omega))
def f1 : E := (.imp (.and (.not J2) (.and (.not J90) (.and (.not J91) J94))) (.fn 103 (.pr (.fn 10 (.int 0)) (.pr J95 (.pr (.fn 10 (.int 0)) (.pr J2 (.pr J4 (.pr (.int 0) (.ar .shl .u64 J96 (.int 1))))))))))
theorem fact1 (ρ : Env) : E.B ρ f1 = true := by
  unfold f1
  rw [sm_B_imp]
  simp only [sm_B_and]
  rintro ⟨p0, p1, p2, p3, p4⟩
  have hn := in64_nth (i := (.int 0)) p4 (by simp only [smZ] at * <;> omega) (by simp only [smZ] at * <;> omega)
  have hg := nums_nth (i := (.int 0)) p4 (by simp only [smZ] at * <;> omega) (by simp only [smZ] at * <;> omega)
  have hz := zig_nn hn (by simp only [smZ] at * <;> omega)
  exact t103_start (t101_zero (i := (.int 0)) (by simp only [smZ] at * <;> omega)) (by simp only [smZ] at * <;> omega) (by simp only [smZ] at * <;> omega) hg hz (hb_hi (by have q := p0; rwa [sm_B_not] at q) (by simp only [smZ] at * <;> omega))
def f2 : E := (.imp (.and J90 J94) (.fn 103 (.pr (.fn 10 (.int 0)) (.pr J18 (.pr (.fn 10 (.int 0)) (.pr J2 (.pr J4 (.pr (.int 0) (.ar .xor .u64 (.int 18446744073709551615) (.ar .shl .u64 J96 (.int 1)))))))))))
theorem fact2 (ρ : Env) : E.B ρ f2 = true := by
  unfold f2
  rw [sm_B_imp]
  simp only [sm_B_and]
  rintro ⟨p0, p1, p2⟩
  have hn := in64_nth (i := (.int 0)) p2 (by simp only [smZ] at * <;> omega) (by simp only [smZ] at * <;> omega)
  have hg := nums_nth (i := (.int 0)) p2 (by simp only [smZ] at * <;> omega) (by simp only [smZ] at * <;> omega)
  have hz := zig_neg hn (by simp only [smZ] at * <;> omega)
  exact t103_start (t101_zero (i := (.int 0)) (by simp only [smZ] at * <;> omega)) (by simp only [smZ] at * <;> omega) (by simp only [smZ] at * <;> omega) hg hz (hb_lo (by simp only [smZ] at * <;> omega))
def f3 : E := (.imp (.and J2 (.and J91 J94)) (.fn 103 (.pr (.fn 10 (.int 0)) (.pr J18 (.pr (.fn 10 (.int 0)) (.pr J2 (.pr J4 (.pr (.int 0) (.ar .xor .u64 (.int 18446744073709551615) (.ar .shl .u64 J96 (.int 1)))))))))))
theorem fact3 (ρ : Env) : E.B ρ f3 = true := by
  unfold f3
  rw [sm_B_imp]
  simp only [sm_B_and]
  rintro ⟨p0, p1, p2, p3⟩
  have hn := in64_nth (i := (.int 0)) p3 (by simp only [smZ] at * <;> omega) (by simp only [smZ] at * <;> omega)
  have hg := nums_nth (i := (.int 0)) p3 (by simp only [smZ] at * <;> omega) (by simp only [smZ] at * <;> omega)
  have hz := zig_neg hn (by simp only [smZ] at * <;> omega)
  exact t103_start (t101_zero (i := (.int 0)) (by simp only [smZ] at * <;> omega)) (by simp only [smZ] at * <;> omega) (by simp only [smZ] at * <;> omega) hg hz (hb_t p0)
def f4 : E := (.imp (.and J2 (.and (.not J91) J94)) (.fn 103 (.pr (.fn 10 (.int 0)) (.pr J18 (.pr (.fn 10 (.int 0)) (.pr J2 (.pr J4 (.pr (.int 0) (.ar .shl .u64 J96 (.int 1))))))))))
theorem fact4 (ρ : Env) : E.B ρ f4 = true := by
  unfold f4
  rw [sm_B_imp]
  simp only [sm_B_and]
  rintro ⟨p0, p1, p2, p3⟩
  have hn := in64_nth (i := (.int 0)) p3 (by simp only [smZ] at * <;> omega) (by simp only [smZ] at * <;> omega)
  have hg := nums_nth (i := (.int 0)) p3 (by simp only [smZ] at * <;> omega) (by simp only [smZ] at * <;> omega)
  have hz := zig_nn hn (by simp only [smZ] at * <;> omega)
  exact t103_start (t101_zero (i := (.int 0)) (by simp only [smZ] at * <;> omega)) (by simp only [smZ] at * <;> omega) (by simp only [smZ] at * <;> omega) hg hz (hb_t p0)
def f5 : E := (.imp (.and J93 (.and J91 J92)) (.not (.cmp .lss (.ar .xor .u64 (.int 18446744073709551615) (.ar .shl .u64 J96 (.int 1))) (.int 0))))
theorem fact5 (ρ : Env) : E.B ρ f5 = true := by
  unfold f5
  rw [sm_B_imp]
  simp only [sm_B_and]
  rintro ⟨p0, p1, p2⟩
  have hn := in64_nth (i := (.int 0)) p0 (by simp only [smZ] at * <;> omega) (by simp only [smZ] at * <;> omega)
  have hg := nums_nth (i := (.int 0)) p0 (by simp only [smZ] at * <;> omega) (by simp only [smZ] at * <;> omega)
  have hz := zig_neg hn (by simp only [smZ] at * <;> omega)
  rw [sm_B_not, sm_B_lss]
  exact zig_lo hn hz
def f6 : E := (.imp (.and J93 (.and (.not J91) J92)) (.not (.cmp .lss (.ar .shl .u64 J96 (.int 1)) (.int 0))))
theorem fact6 (ρ : Env) : E.B ρ f6 = true := by
  unfold f6
  rw [sm_B_imp]
  simp only [sm_B_and]
  rintro ⟨p0, p1, p2⟩
  have hn := in64_nth (i := (.int 0)) p0 (by simp only [smZ] at * <;> omega) (by simp only [smZ] at * <;> omega)
  have hg := nums_nth (i := (.int 0)) p0 (by simp only [smZ] at * <;> omega) (by simp only [smZ] at * <;> omega)
  have hz := zig_nn hn (by simp only [smZ] at * <;> omega)
  rw [sm_B_not, sm_B_lss]
  exact zig_lo hn hz
def f7 : E := (.imp (.and J93 (.and J90 J92)) (.not (.cmp .lss (.ar .xor .u64 (.int 18446744073709551615) (.ar .shl .u64 J96 (.int 1))) (.int 0))))
theorem fact7 (ρ : Env) : E.B ρ f7 = true := by
  unfold f7
  rw [sm_B_imp]
  simp only [sm_B_and]
  rintro ⟨p0, p1, p2⟩
  have hn := in64_nth (i := (.int 0)) p0 (by simp only [smZ] at * <;> omega) (by simp only [smZ] at * <;> omega)
  have hg := nums_nth (i := (.int 0)) p0 (by simp only [smZ] at * <;> omega) (by simp only [smZ] at * <;> omega)
  have hz := zig_neg hn (by simp only [smZ] at * <;> omega)
  rw [sm_B_not, sm_B_lss]
  exact zig_lo hn hz
def f8 : E := (.imp (.and J93 (.and J91 J92)) (.not (.cmp .lss (.int 18446744073709551615) (.ar .xor .u64 (.int 18446744073709551615) (.ar .shl .u64 J96 (.int 1))))))
theorem fact8 (ρ : Env) : E.B ρ f8 = true := by
  unfold f8
  rw [sm_B_imp]
  simp only [sm_B_and]
  rintro ⟨p0, p1, p2⟩
  have hn := in64_nth (i := (.int 0)) p0 (by simp only [smZ] at * <;> omega) (by simp only [smZ] at * <;> omega)
  have hg := nums_nth (i := (.int 0)) p0 (by simp only [smZ] at * <;> omega) (by simp only [smZ] at * <;> omega)
  have hz := zig_neg hn (by simp only [smZ] at * <;> omega)
  rw [sm_B_not, sm_B_lss]
  exact zig_hi hn hz
def f9 : E := (.imp (.and J93 (.and (.not J91) J92)) (.not (.cmp .lss (.int 18446744073709551615) (.ar .shl .u64 J96 (.int 1)))))
theorem fact9 (ρ : Env) : E.B ρ f9 = true := by
  unfold f9
  rw [sm_B_imp]
  simp only [sm_B_and]
  rintro ⟨p0, p1, p2⟩
  have hn := in64_nth (i := (.int 0)) p0 (by simp only [smZ] at * <;> omega) (by simp only [smZ] at * <;> omega)
  have hg := nums_nth (i := (.int 0)) p0 (by simp only [smZ] at * <;> omega) (by simp only [smZ] at * <;> omega)
  have hz := zig_nn hn (by simp only [smZ] at * <;> omega)
  rw [sm_B_not, sm_B_lss]
  exact zig_hi hn hz
def f10 : E := (.imp (.and J93 (.and J90 J92)) (.not (.cmp .lss (.int 18446744073709551615) (.ar .xor .u64 (.int 18446744073709551615) (.ar .shl .u64 J96 (.int 1))))))
theorem fact10 (ρ : Env) : E.B ρ f10 = true := by
  unfold f10
  rw [sm_B_imp]
  simp only [sm_B_and]
  rintro ⟨p0, p1, p2⟩
  have hn := in64_nth (i := (.int 0)) p0 (by simp only [smZ] at * <;> omega) (by simp only [smZ] at * <;> omega)
  have hg := nums_nth (i := (.int 0)) p0 (by simp only [smZ] at * <;> omega) (by simp only [smZ] at * <;> omega)
  have hz := zig_neg hn (by simp only [smZ] at * <;> omega)
  rw [sm_B_not, sm_B_lss]
  exact zig_hi hn hz
def f11 : E := (.imp (.and J97 (.and J92 (.and J93 (.and J99 J106)))) (.fn 103 (.pr (.fn 23 (.pr (.ar .or .u8 (.wr .u8 J85) (.int 128)) (.fn 10 (.int 0)))) (.pr J48 (.pr (.fn 10 (.int 0)) (.pr J2 (.pr J4 (.pr (.int 0) (.ar .shr .u64 J85 (.int 7))))))))))
theorem fact11 (ρ : Env) : E.B ρ f11 = true := by
  unfold f11
  rw [sm_B_imp]
  simp only [sm_B_and]
  rintro ⟨p0, p1, p2, p3, p4⟩
  have g0 : (0) ≤ E.I ρ J85 := by
    try simp only [smZ] at *
    omega
  exact t103_step0 p4 (by simp only [smZ] at * <;> omega) (I_or g0) I_shr
def f12 : E := (.imp (.and (.not J97) (.and J92 (.and J93 (.and (.not (.cmp .lss J85 (.int 0))) J106)))) (.fn 101 (.pr (.fn 23 (.pr (.wr .u8 J85) (.fn 10 (.int 0)))) (.pr J48 J108))))
theorem fact12 (ρ : Env) : E.B ρ f12 = true := by
  unfold f12
  rw [sm_B_imp]
  simp only [sm_B_and]
  rintro ⟨p0, p1, p2, p3, p4⟩
  obtain ⟨g0, g1, g2⟩ : (0) ≤ E.I ρ J85 ∧ E.I ρ J85 < (128) ∧ (1) = E.I ρ (.fn 6 (.pr (.int 0) (.int 1))) := by
    try simp only [smZ] at *
    omega
  exact t103_end0 p4 g1 g0 (I_wr8 g0 g1) (by simp only [smZ] at * <;> omega) (by simp only [smZ] at * <;> omega) g2
def f13 : E := (.imp (.and J109 (.and J92 (.and J93 (.and (.not (.cmp .lss (.var 18) J27)) J112)))) (.not (.cmp .lss (.var 18) (.int 0))))
theorem fact13 (ρ : Env) : E.B ρ f13 = true := by
  unfold f13
  rw [sm_B_imp]
  simp only [sm_B_and]
  rintro ⟨p0, p1, p2, p3, p4, p5⟩
  try simp only [smZ] at *
  omega
def f14 : E := (.imp J116 (.not (.cmp .lss (.ar .shr .u64 J85 (.int 7)) (.int 0))))
theorem fact14 (ρ : Env) : E.B ρ f14 = true := by
  unfold f14
  rw [sm_B_imp]
  simp only [sm_B_and]
  rintro ⟨p0, p1, p2, p3, p4⟩
  try simp only [smZ] at *
  omega
def f15 : E := (.imp J119 J32)
theorem fact15 (ρ : Env) : E.B ρ f15 = true := by
  unfold f15
  rw [sm_B_imp]
  simp only [sm_B_and]
  rintro ⟨p0, p1, p2, p3, p4⟩
  have hl0 := t103_len p0 p2 (by simp only [smZ] at * <;> omega) (by simp only [smZ] at * <;> omega)
  try simp only [smZ] at *
  have n1 := @fn0_nn ρ J4
  have n3 := @fn0_nn ρ J24
  omega
def f16 : E := (.imp J116 (.not (.cmp .lss (.int 18446744073709551615) (.ar .shr .u64 J85 (.int 7)))))
theorem fact16 (ρ : Env) : E.B ρ f16 = true := by
  unfold f16
  rw [sm_B_imp]
  simp only [sm_B_and]
  rintro ⟨p0, p1, p2, p3, p4⟩
  try simp only [smZ] at *
  omega
def f17 : E := (.imp (.and J33 (.and J35 (.and J109 J94))) (.fn 103 (.pr (.fn 3 (.pr J24 (.fn 23 (.pr (.ar .or .u8 (.wr .u8 J25) (.int 128)) (.fn 10 (.int 0)))))) (.pr (.var 19) (.pr (.fn 10 (.int 0)) (.pr J2 (.pr J4 (.pr (.int 0) (.ar .shr .u64 J25 (.int 7))))))))))
theorem fact17 (ρ : Env) : E.B ρ f17 = true := by
  unfold f17
  rw [sm_B_imp]
  simp only [sm_B_and]
  rintro ⟨p0, p1, p2, p3, p4⟩
  have g0 : (0) ≤ E.I ρ J25 := by
    try simp only [smZ] at *
    omega
  exact t103_step p2 (by simp only [smZ] at * <;> omega) (I_or g0) I_shr
def f18 : E := (.imp (.and (.not J33) (.and (.not (.cmp .lss J25 (.int 0))) (.and J109 J94))) (.fn 101 (.pr (.fn 3 (.pr J24 (.fn 23 (.pr (.wr .u8 J25) (.fn 10 (.int 0)))))) (.pr (.var 19) J108))))
theorem fact18 (ρ : Env) : E.B ρ f18 = true := by
  unfold f18
  rw [sm_B_imp]
  simp only [sm_B_and]
  rintro ⟨p0, p1, p2, p3, p4⟩
  obtain ⟨g0, g1, g2⟩ : (0) ≤ E.I ρ J25 ∧ E.I ρ J25 < (128) ∧ (1) = E.I ρ (.fn 6 (.pr (.int 0) (.int 1))) := by
    try simp only [smZ] at *
    omega
  exact t103_end p2 g1 g0 (I_wr8 g0 g1) (by simp only [smZ] at * <;> omega) (by simp only [smZ] at * <;> omega) g2
def f19 : E := (.imp J116 (.cmp .lss (.ar .shr .u64 J85 (.int 7)) J85))
theorem fact19 (ρ : Env) : E.B ρ f19 = true := by
  unfold f19
  rw [sm_B_imp]
  simp only [sm_B_and]
  rintro ⟨p0, p1, p2, p3, p4⟩
  try simp only [smZ] at *
  omega
def f20 : E := (.imp (.and J109 (.and J92 J28)) J37)
theorem fact20 (ρ : Env) : E.B ρ f20 = true := by
  unfold f20
  rw [sm_B_imp]
  simp only [sm_B_and]
  rintro ⟨p0, p1, p2⟩
  try simp only [smZ] at *
  omega
def f21 : E := (.imp J122 (.not (.cmp .lss (.ar .shr .u64 J25 (.int 7)) (.int 0))))
theorem fact21 (ρ : Env) : E.B ρ f21 = true := by
  unfold f21
  rw [sm_B_imp]
  simp only [sm_B_and]
  rintro ⟨p0, p1, p2, p3, p4⟩
  try simp only [smZ] at *
  omega
def f22 : E := (.imp J119 (.not (.cmp .lss (.int 10) (.fn 6 (.pr J27 (.int 1))))))
theorem fact22 (ρ : Env) : E.B ρ f22 = true := by
  unfold f22
  rw [sm_B_imp]
  simp only [sm_B_and]
  rintro ⟨p0, p1, p2, p3, p4⟩
  have hl0 := t103_len p0 p2 (by simp only [smZ] at * <;> omega) (by simp only [smZ] at * <;> omega)
  try simp only [smZ] at *
  have n1 := @fn0_nn ρ J4
  have n3 := @fn0_nn ρ J24
  omega
def f23 : E := (.imp J122 (.not (.cmp .lss (.int 18446744073709551615) (.ar .shr .u64 J25 (.int 7)))))
theorem fact23 (ρ : Env) : E.B ρ f23 = true := by
  unfold f23
  rw [sm_B_imp]
  simp only [sm_B_and]
  rintro ⟨p0, p1, p2, p3, p4⟩
  try simp only [smZ] at *
  omega
def f24 : E := (.imp J122 (.cmp .lss (.ar .shr .u64 J25 (.int 7)) J25))
theorem fact24 (ρ : Env) : E.B ρ f24 = true := by
  unfold f24
  rw [sm_B_imp]
  simp only [sm_B_and]
  rintro ⟨p0, p1, p2, p3, p4⟩
  try simp only [smZ] at *
  omega
def facts : List E := [f0, f1, f2, f3, f4, f5, f6, f7, f8, f9, f10, f11, f12, f13, f14, f15, f16, f17, f18, f19, f20, f21, f22, f23, f24]
theorem facts_ok : ∀ e ∈ facts, ∀ ρ : Env, E.B ρ e = true := (all_cons fact0 (all_cons fact1 (all_cons fact2 (all_cons fact3 (all_cons fact4 (all_cons fact5 (all_cons fact6 (all_cons fact7 (all_cons fact8 (all_cons fact9 (all_cons fact10 (all_cons fact11 (all_cons fact12 (all_cons fact13 (all_cons fact14 (all_cons fact15 (all_cons fact16 (all_cons fact17 (all_cons fact18 (all_cons fact19 (all_cons fact20 (all_cons fact21 (all_cons fact22 (all_cons fact23 (all_cons fact24 all_nil)))))))))))))))))))))))))
end p7
set_option maxRecDepth 100000 in
theorem spec7_0 : NatOk Try.prog (specNat (spF)) :=
  spec_of_check good (facts := p7.facts) p7.facts_ok (anns := annF) (plainAnns_ok _ (by kernel_rfl)) (nats := natl8) natl8_ok (n := 3000) (by kernel_rfl)
def natl9 : List Nat1 := specNat (spF) :: natl8
theorem natl9_ok : ∀ x ∈ natl9, NatOk Try.prog x := by
  intro x hx
  rcases List.mem_cons.1 hx with rfl | hx
  · exact spec7_0
  exact natl8_ok x hx

end
end Go.Proofs.Ytoicbojdnjcmiaa.viewEncodes
