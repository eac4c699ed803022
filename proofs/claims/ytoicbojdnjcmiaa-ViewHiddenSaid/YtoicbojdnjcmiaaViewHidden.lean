/-
  ViewHidden: one reckoning by the kernel, over contracts of functions and facts.
-/
import Derived.Test.YtoicbojdnjcmiaaRows
import Derived.Test.YtoicbojdnjcmiaaNat
import Derived.WalkKit
import Derived.ProofKit
import Derived.OpenShut
import Derived.ChangeOld
import Derived.Below
import Derived.KernelRfl
import Derived.Lib.SmallJoins
import Derived.Test.YtoicbojdnjcmiaaViewHiddenParte
namespace Go.Proofs.Ytoicbojdnjcmiaa.viewHidden
open Go.ChangeShapes Go.WideShapes Go.ChangeAt Go.RowKit
open Go.SX
set_option linter.unusedVariables false
set_option linter.unusedSimpArgs false
set_option maxRecDepth 100000
noncomputable section
abbrev K0:E:=.var 1
abbrev K1:E:=.cmp .eql (.ar .sub .i64 (.int 1) K0) (.int 0)
abbrev K2:E:=.var 0
abbrev K3:E:=.pr K2 K0
abbrev K4:E:=.fn 145 K3
abbrev K5:E:=.cmp .eql (.fn 0 (.fn 1 (.pr K2 (.int 6)))) (.int 0)
abbrev K6:E:=.cmp .eql (.fn 0 (.fn 1 (.pr K2 (.int 20)))) (.int 0)
abbrev K7:E:=.and (.not (.cmp .lss (.int 1) K0)) (.and (.not (.cmp .lss K0 (.int 0))) (.fn 117 K2))
abbrev K8:E:=.pr (.fn 10 (.int 0)) K3
abbrev K9:E:=.fn 162 K8
abbrev K10:E:=.fn 163 K8
abbrev K11:E:=.var 14
abbrev K12:E:=.cmp .eql K11 (.int 0)
abbrev K13:E:=.var 9
abbrev K14:E:=.cmp .lss K11 K13
abbrev K15:E:=.cmp .lss K11 (.int 0)
abbrev K16:E:=.not K15
abbrev K17:E:=.cmp .lss (.int 600) K13
abbrev K18:E:=.not K17
abbrev K19:E:=.and K16 K18
abbrev K20:E:=.and K14 K19
abbrev K21:E:=.and K12 K20
abbrev K22:E:=.ar .add .i64 K11 (.int 1)
abbrev K23:E:=.cmp .lss K22 (.int 0)
abbrev K24:E:=.not K23
abbrev K25:E:=.var 16
abbrev K26:E:=.var 12
abbrev K27:E:=.cmp .lss K25 K26
abbrev K28:E:=.not K27
abbrev K29:E:=.not (.cmp .lss K26 K25)
abbrev K30:E:=.var 11
abbrev K31:E:=.cmp .eql (.fn 0 K30) K26
abbrev K32:E:=.and K31 (.not (.cmp .lss (.var 13) K26))
abbrev K33:E:=.not (.cmp .lss K25 (.int 0))
abbrev K34:E:=.cmp .eql K26 K11
abbrev K35:E:=.and K34 K18
abbrev K36:E:=.and K33 (.and K14 K35)
abbrev K37:E:=.and K27 K36
abbrev K38:E:=.ar .add .i64 K25 (.int 1)
abbrev K39:E:=.cmp .lss K13 K11
abbrev K40:E:=.not K39
abbrev K41:E:=.var 8
abbrev K42:E:=.cmp .eql (.fn 0 K41) K13
abbrev K43:E:=.and K40 (.and (.fn 162 (.pr K41 K3)) K42)
abbrev K44:E:=.not (.cmp .lss K26 (.int 1))
abbrev K45:E:=.and K18 K42
abbrev K46:E:=.and K40 K19
abbrev K47:E:=.and K14 K46
abbrev K48:E:=.and K12 K47
abbrev K49:E:=.cmp .lss K13 K22
abbrev K50:E:=.not K49
abbrev K51:E:=.cmp .lss K13 (.int 0)
abbrev K52:E:=.not K51
abbrev K53:E:=.and K52 K42
abbrev K54:E:=.and K18 K53
abbrev K55:E:=.and K34 K54
abbrev K56:E:=.and K31 K55
abbrev K57:E:=.and K14 K56
abbrev K58:E:=.and K29 K57
abbrev K59:E:=.and K28 K58
abbrev K60:E:=.not (.cmp .lss (.int 2147483648) K25)
abbrev K61:E:=.and K27 K57
abbrev K62:E:=.pr K30 (.pr K41 K11)
abbrev K63:E:=.fn 152 K62
abbrev K64:E:=.cmp .eql K25 (.int 0)
abbrev K65:E:=.and K28 (.and K64 (.and K29 K44))
abbrev K66:E:=.cmp .lss (.fn 7 (.pr K26 K25)) (.int 0)
abbrev K67:E:=.not K66
abbrev K68:E:=.cmp .lss (.int 2147483648) (.fn 6 (.pr K25 (.int 1)))
abbrev K69:E:=.not K68
abbrev K70:E:=.cmp .lss (.fn 1 (.pr K30 K25)) (.fn 1 (.pr K41 K11))
abbrev K71:E:=.pr (.fn 1 (.pr K41 K11)) K25
abbrev K72:E:=.pr K30 K71
abbrev K73:E:=.fn 160 K72
abbrev K74:E:=.and K27 (.and K64 K31)
abbrev K75:E:=.and K16 K45
abbrev K76:E:=.pr K41 K22
abbrev K77:E:=.pr (.fn 23 (.pr (.fn 1 (.pr K41 K11)) (.fn 10 (.int 0)))) K76
abbrev K78:E:=.fn 152 K77
abbrev K79:E:=.cmp .lss K26 (.fn 6 (.pr K25 (.fn 7 (.pr K26 K25))))
abbrev K80:E:=.not K79
abbrev K81:E:=.and K44 K35
abbrev K82:E:=.and K14 K81
abbrev K83:E:=.cmp .lss (.fn 7 (.pr K13 K22)) (.fn 7 (.pr K13 K11))
abbrev K84:E:=.cmp .lss (.int 2147483648) (.fn 6 (.pr (.fn 7 (.pr K26 K25)) (.int 1)))
abbrev K85:E:=.not K84
abbrev K86:E:=.and K40 K18
abbrev K87:E:=.and K34 K86
abbrev K88:E:=.and K44 K87
abbrev K89:E:=.and K14 K88
abbrev K90:E:=.and K29 K89
abbrev K91:E:=.and K28 K90
abbrev K92:E:=.and K14 K55
abbrev K93:E:=.cmp .lss (.fn 7 (.pr K13 K22)) (.int 0)
abbrev K94:E:=.not K93
abbrev K95:E:=.and K29 K82
abbrev K96:E:=.and K28 K95
abbrev K97:E:=.and K14 K87
abbrev K98:E:=.and K33 K97
abbrev K99:E:=.and K27 K98
abbrev K100:E:=.cmp .eql (.fn 6 (.pr (.fn 7 (.pr K26 K25)) (.int 1))) K22
abbrev K101:E:=.and K34 K75
abbrev K102:E:=.and K44 K101
abbrev K103:E:=.and K31 K102
abbrev K104:E:=.and K63 K103
abbrev K105:E:=.and K14 K104
abbrev K106:E:=.and K33 K105
abbrev K107:E:=.and K29 K106
abbrev K108:E:=.and K73 K107
abbrev K109:E:=.and K28 K108
abbrev K110:E:=.cmp .lss (.fn 6 (.pr (.fn 7 (.pr K26 K25)) (.int 1))) (.int 1)
abbrev K111:E:=.not K110
abbrev K112:E:=.cmp .eql (.fn 6 (.pr (.fn 6 (.pr K25 (.int 1))) (.fn 7 (.pr K26 K25)))) K22
abbrev K113:E:=.cmp .eql (.fn 6 (.pr (.fn 0 (.fn 4 (.pr K30 (.pr K25 (.fn 6 (.pr K25 (.fn 7 (.pr K26 K25)))))))) (.int 1))) (.fn 6 (.pr (.fn 7 (.pr K26 K25)) (.int 1)))
abbrev K114:E:=.pr (.fn 3 (.pr (.fn 23 (.pr (.fn 1 (.pr K41 K11)) (.fn 10 (.int 0)))) (.fn 4 (.pr K30 (.pr K25 (.fn 6 (.pr K25 (.fn 7 (.pr K26 K25))))))))) K76
abbrev K115:E:=.fn 152 K114
abbrev K116:E:=.cmp .eql (.fn 6 (.pr (.fn 6 (.pr (.fn 0 (.fn 4 (.pr K30 (.pr (.int 0) K25)))) (.int 1))) (.fn 0 (.fn 4 (.pr K30 (.pr K25 (.fn 6 (.pr K25 (.fn 7 (.pr K26 K25)))))))))) (.fn 6 (.pr (.fn 6 (.pr K25 (.int 1))) (.fn 7 (.pr K26 K25))))
abbrev K117:E:=.and K31 K101
abbrev K118:E:=.and K63 K117
abbrev K119:E:=.and K14 K118
abbrev K120:E:=.and K33 K119
abbrev K121:E:=.and K73 K120
abbrev K122:E:=.pr (.fn 3 (.pr (.fn 3 (.pr (.fn 4 (.pr K30 (.pr (.int 0) K25))) (.fn 23 (.pr (.fn 1 (.pr K41 K11)) (.fn 10 (.int 0)))))) (.fn 4 (.pr K30 (.pr K25 (.fn 6 (.pr K25 (.fn 7 (.pr K26 K25))))))))) K76
abbrev K123:E:=.fn 152 K122
abbrev K124:E:=.cmp .lss K13 (.fn 9 (.pr K2 (.int 5)))
abbrev K125:E:=.cmp .lss (.int 1000) (.fn 9 (.pr K2 (.int 5)))
abbrev K126:E:=.not K125
abbrev K127:E:=.and K52 K126
abbrev K128:E:=.and K124 K127
abbrev K129:E:=.ar .add .i64 K13 (.int 1)
abbrev K130:E:=.cmp .lss (.fn 9 (.pr K2 (.int 5))) K13
abbrev K131:E:=.not K130
abbrev K132:E:=.and K131 K127
abbrev K133:E:=.and K124 K132
abbrev K134:E:=.cmp .lss (.int 120) (.fn 9 (.pr (.fn 1 (.pr K2 (.int 0))) (.int 12)))
abbrev K135:E:=.mx (.mx (.mx (.mx (.mx (.mx (.mx (.mx (.mx (.mx (.mx (.fn 9 (.pr (.fn 1 (.pr K2 (.int 29))) (.int 5))) (.fn 9 (.pr (.fn 1 (.pr K2 (.int 30))) (.int 5)))) (.fn 0 (.fn 1 (.pr K2 (.int 31))))) (.fn 9 (.pr (.fn 1 (.pr K2 (.int 32))) (.int 2)))) (.fn 0 (.fn 1 (.pr K2 (.int 6))))) (.fn 0 (.fn 1 (.pr K2 (.int 7))))) (.fn 0 (.fn 1 (.pr K2 (.int 8))))) (.fn 0 (.fn 1 (.pr K2 (.int 9))))) (.fn 0 (.fn 1 (.pr K2 (.int 20))))) (.fn 0 (.fn 1 (.pr K2 (.int 21))))) (.fn 0 (.fn 1 (.pr K2 (.int 22))))) (.fn 0 (.fn 1 (.pr K2 (.int 23))))
abbrev K136:E:=.cmp .lss (.int 200) K135
abbrev K137:E:=.not K136
abbrev K138:E:=.var 4
abbrev K139:E:=.cmp .eql K0 K138
abbrev K140:E:=.var 3
abbrev K141:E:=.pr K2 (.pr K140 K0)
abbrev K142:E:=.fn 161 K141
abbrev K143:E:=.and K139 K142
abbrev K144:E:=.iff (.bool false) K143
abbrev K145:E:=.cmp .eql K138 K0
abbrev K146:E:=.cmp .lss K41 K0
abbrev K147:E:=.cmp .eql (.fn 0 K140) K138
abbrev K148:E:=.cmp .eql (.fn 0 K2) K0
abbrev K149:E:=.and K147 K148
abbrev K150:E:=.and K145 K149
abbrev K151:E:=.not (.cmp .lss K0 K41)
abbrev K152:E:=.cmp .eql (.fn 1 (.pr K2 K41)) (.fn 1 (.pr K140 K41))
abbrev K153:E:=.cmp .lss K41 (.int 0)
abbrev K154:E:=.not K153
abbrev K155:E:=.cmp .lss (.int 1000) K138
abbrev K156:E:=.not K155
abbrev K157:E:=.and K145 K156
abbrev K158:E:=.and K154 K157
abbrev K159:E:=.and K146 K158
abbrev K160:E:=.ar .add .i64 K41 (.int 1)
abbrev K161:E:=.and K151 K158
abbrev K162:E:=.and K146 K161
abbrev K163:E:=.cmp .eql K0 (.int 0)
abbrev K164:E:=.fn 130 K2
abbrev K165:E:=.iff K140 K164
abbrev K166:E:=.not K4
abbrev K167:E:=.and K165 K166
abbrev K168:E:=.cmp .eql K0 (.int 1)
abbrev K169:E:=.and (.iff K138 K164) K166
abbrev K170:E:=.and (.iff (.var 5) K164) K166
abbrev K171:E:=.iff (.var 6) K164
abbrev K172:E:=.and K171 K166
abbrev K173:E:=.and K4 (.not K163)
def F522:E:=(.imp (.and (.not K1) K4) (.cmp .eql (.ar .sub .i64 (.int 1) K0) (.int 1)))
theorem G522:Tr F522:=ii2 fun ρ p0 p1=>by
 have:=@z145 ρ K0 K2
 try simp only [smA,smW] at *
 obtain ⟨a1,ea1,qa1⟩:=cs_i64 ((1) - (E.I ρ K0))
 try simp only [ea1] at *
 grind
def F523:E:=(.imp (.not K5) (.not (.cmp .lss (.fn 6 (.pr (.fn 6 (.pr (.fn 0 (.fn 1 (.pr K2 (.int 6)))) (.fn 0 (.fn 1 (.pr K2 (.int 20)))))) (.fn 0 (.fn 1 (.pr K2 (.int 21)))))) (.int 0))))
theorem G523:Tr F523:=ii1 fun ρ p0=>by
 try simp only [smA,smW] at *
 have:=@fn0_nn ρ (.fn 1 (.pr K2 (.int 6)))
 have:=@fn0_nn ρ (.fn 1 (.pr K2 (.int 20)))
 have:=@fn0_nn ρ (.fn 1 (.pr K2 (.int 21)))
 try simp only [ea7] at *
 grind
def F524:E:=(.imp (.not K6) (.not (.cmp .lss (.fn 6 (.pr (.fn 0 (.fn 1 (.pr K2 (.int 20)))) (.fn 0 (.fn 1 (.pr K2 (.int 21)))))) (.int 0))))
theorem G524:Tr F524:=ii1 fun ρ p0=>by
 try simp only [smA,smW] at *
 have:=@fn0_nn ρ (.fn 1 (.pr K2 (.int 20)))
 have:=@fn0_nn ρ (.fn 1 (.pr K2 (.int 21)))
 try simp only [ea6] at *
 grind
def F525:E:=(.imp (.and (.not K1) (.and K5 (.and K6 (.and (.cmp .eql (.fn 0 (.fn 1 (.pr K2 (.int 21)))) (.int 0)) K7)))) K9)
theorem G525:Tr F525:=ii7 fun ρ p0 p1 p2 p3 p4 p5 p6=>by
 obtain ⟨gp,g6,g20,g21⟩:E.I ρ K0=(0)∧E.I ρ (.fn 0 (.fn 1 (.pr K2 (.int 6))))=(0)∧E.I ρ (.fn 0 (.fn 1 (.pr K2 (.int 20))))=(0)∧E.I ρ (.fn 0 (.fn 1 (.pr K2 (.int 21))))=(0):=by
  have:=t117 p6
  have:=@wrap_sub ρ (.int 1) K0
  try simp only [smA,smW] at *
  have:=@fn0_nn ρ (.fn 1 (.pr K2 (.int 6)))
  have:=@fn0_nn ρ (.fn 1 (.pr K2 (.int 20)))
  have:=@fn0_nn ρ (.fn 1 (.pr K2 (.int 21)))
  obtain ⟨a4,ea4,qa4⟩:=cs_i64 ((1) - (E.I ρ K0))
  try simp only [ea4] at *
  grind
 exact t162_0 gp (by simp only [ints_app,ints_nil,ints_40z,List.nil_append,List.append_nil,List.append_assoc,ints_nil_of g6,ints_nil_of g20,ints_nil_of g21])
def F526:E:=(.imp (.not K5) (.not (.cmp .lss (.fn 6 (.pr (.fn 6 (.pr (.fn 0 (.fn 1 (.pr K2 (.int 6)))) (.fn 0 (.fn 1 (.pr K2 (.int 20)))))) (.fn 0 (.fn 1 (.pr K2 (.int 7)))))) (.int 0))))
theorem G526:Tr F526:=ii1 fun ρ p0=>by
 try simp only [smA,smW] at *
 have:=@fn0_nn ρ (.fn 1 (.pr K2 (.int 6)))
 have:=@fn0_nn ρ (.fn 1 (.pr K2 (.int 20)))
 have:=@fn0_nn ρ (.fn 1 (.pr K2 (.int 7)))
 try simp only [ea7] at *
 grind
def F527:E:=(.imp (.not K6) (.not (.cmp .lss (.fn 6 (.pr (.fn 0 (.fn 1 (.pr K2 (.int 20)))) (.fn 0 (.fn 1 (.pr K2 (.int 7)))))) (.int 0))))
theorem G527:Tr F527:=ii1 fun ρ p0=>by
 try simp only [smA,smW] at *
 have:=@fn0_nn ρ (.fn 1 (.pr K2 (.int 20)))
 have:=@fn0_nn ρ (.fn 1 (.pr K2 (.int 7)))
 try simp only [ea6] at *
 grind
def F528:E:=(.imp (.and K1 (.and K5 (.and K6 (.and (.cmp .eql (.fn 0 (.fn 1 (.pr K2 (.int 7)))) (.int 0)) K7)))) K9)
theorem G528:Tr F528:=ii7 fun ρ p0 p1 p2 p3 p4 p5 p6=>by
 obtain ⟨gp,g6,g20,g7⟩:E.I ρ K0=(1)∧E.I ρ (.fn 0 (.fn 1 (.pr K2 (.int 6))))=(0)∧E.I ρ (.fn 0 (.fn 1 (.pr K2 (.int 20))))=(0)∧E.I ρ (.fn 0 (.fn 1 (.pr K2 (.int 7))))=(0):=by
  have:=t117 p6
  have:=@wrap_sub ρ (.int 1) K0
  try simp only [smA,smW] at *
  have:=@fn0_nn ρ (.fn 1 (.pr K2 (.int 6)))
  have:=@fn0_nn ρ (.fn 1 (.pr K2 (.int 20)))
  have:=@fn0_nn ρ (.fn 1 (.pr K2 (.int 7)))
  obtain ⟨a4,ea4,qa4⟩:=cs_i64 ((1) - (E.I ρ K0))
  try simp only [ea4] at *
  grind
 exact t162_1 gp (by simp only [ints_app,ints_nil,ints_40z,List.nil_append,List.append_nil,List.append_assoc,ints_nil_of g6,ints_nil_of g20,ints_nil_of g7])
def F529:E:=(.imp (.and (.not K1) (.and K5 (.and K6 K7))) (.fn 162 (.pr (.fn 1 (.pr K2 (.int 21))) K3)))
theorem G529:Tr F529:=ii6 fun ρ p0 p1 p2 p3 p4 p5=>by
 obtain ⟨gp,g6,g20⟩:E.I ρ K0=(0)∧E.I ρ (.fn 0 (.fn 1 (.pr K2 (.int 6))))=(0)∧E.I ρ (.fn 0 (.fn 1 (.pr K2 (.int 20))))=(0):=by
  have:=t117 p5
  have:=@wrap_sub ρ (.int 1) K0
  try simp only [smA,smW] at *
  have:=@fn0_nn ρ (.fn 1 (.pr K2 (.int 6)))
  have:=@fn0_nn ρ (.fn 1 (.pr K2 (.int 20)))
  have:=@fn0_nn ρ (.fn 1 (.pr K2 (.int 21)))
  obtain ⟨a5,ea5,qa5⟩:=cs_i64 ((1) - (E.I ρ K0))
  try simp only [ea5] at *
  grind
 exact t162_0 gp (by simp only [ints_app,ints_nil,ints_40z,List.nil_append,List.append_nil,List.append_assoc,ints_nil_of g6,ints_nil_of g20])
def F530:E:=(.imp K9 K10)
theorem G530:Tr F530:=ii1 fun ρ p0=>by
 have hzz:=@t152_zero ρ (.fn 10 (.int 0)) (.int 0) (.int 0) (Int.le_refl _)
 have:=@t163_of ρ _ _ (.int 0) _ _ p0 hzz
 have hnx:E.I ρ (.fn 0 (.fn 10 (.int 0)))=0:=rfl
 try simp only [smA,smW] at *
 grind
def F531:E:=(.imp K21 K24)
theorem G531:Tr F531:=ii4 fun ρ p0 p1 p2 p3=>by
 try simp only [smA,smW] at *
 obtain ⟨a6,ea6,qa6⟩:=cs_i64 ((E.I ρ K11) + (1))
 try simp only [ea6] at *
 grind
def F532:E:=(.imp (.and K28 (.and K29 K32)) (.not (.cmp .lss (.var 13) K25)))
theorem G532:Tr F532:=ii4 fun ρ p0 p1 p2 p3=>by
 try simp only [smA,smW] at *
 omega
def F533:E:=(.imp K37 (.not (.cmp .lss K38 (.int 0))))
theorem G533:Tr F533:=ii5 fun ρ p0 p1 p2 p3 p4=>by
 try simp only [smA,smW] at *
 obtain ⟨a11,ea11,qa11⟩:=cs_i64 ((E.I ρ K25) + (1))
 try simp only [ea11] at *
 grind
def F534:E:=(.imp (.and K27 K32) (.not (.cmp .lss (.var 13) K25)))
theorem G534:Tr F534:=ii3 fun ρ p0 p1 p2=>by
 try simp only [smA,smW] at *
 omega
def F535:E:=(.imp (.and K12 (.and (.not K14) K43)) K10)
theorem G535:Tr F535:=ii5 fun ρ p0 p1 p2 p3 p4=>by
 have hzz:=@t152_zero ρ K41 (.int 0) (.int 0) (Int.le_refl _)
 have:=@t163_of ρ _ _ (.int 0) _ _ p3 hzz
 try simp only [smA,smW] at *
 grind
def F536:E:=(.fn 160 (.pr K30 (.pr (.fn 1 (.pr K41 K11)) (.int 0))))
theorem G536:Tr F536:=fun ρ=>by
 unfold F536
 have:=@t160_zero ρ K30 (.int 0) (.fn 1 (.pr K41 K11))
 try simp only [smA,smW] at *
 grind
def F537:E:=(.imp (.and (.not K14) (.and K44 (.and K34 (.and K40 K45)))) (.not (.cmp .lss (.int 600) K26)))
theorem G537:Tr F537:=ii6 fun ρ p0 p1 p2 p3 p4 p5=>by
 try simp only [smA,smW] at *
 omega
def F538:E:=(.imp (.and K1 (.and K5 (.and K6 K7))) (.fn 162 (.pr (.fn 1 (.pr K2 (.int 7))) K3)))
theorem G538:Tr F538:=ii6 fun ρ p0 p1 p2 p3 p4 p5=>by
 obtain ⟨gp,g6,g20⟩:E.I ρ K0=(1)∧E.I ρ (.fn 0 (.fn 1 (.pr K2 (.int 6))))=(0)∧E.I ρ (.fn 0 (.fn 1 (.pr K2 (.int 20))))=(0):=by
  have:=t117 p5
  have:=@wrap_sub ρ (.int 1) K0
  try simp only [smA,smW] at *
  have:=@fn0_nn ρ (.fn 1 (.pr K2 (.int 6)))
  have:=@fn0_nn ρ (.fn 1 (.pr K2 (.int 20)))
  have:=@fn0_nn ρ (.fn 1 (.pr K2 (.int 7)))
  obtain ⟨a5,ea5,qa5⟩:=cs_i64 ((1) - (E.I ρ K0))
  try simp only [ea5] at *
  grind
 exact t162_1 gp (by simp only [ints_app,ints_nil,ints_40z,List.nil_append,List.append_nil,List.append_assoc,ints_nil_of g6,ints_nil_of g20])
def F539:E:=(.imp (.and (.not K1) K7) (.fn 162 (.pr (.fn 3 (.pr (.fn 3 (.pr (.fn 1 (.pr K2 (.int 6))) (.fn 1 (.pr K2 (.int 20))))) (.fn 1 (.pr K2 (.int 21))))) K3)))
theorem G539:Tr F539:=ii4 fun ρ p0 p1 p2 p3=>by
 have gp:E.I ρ K0=(0):=by
  have:=t117 p3
  have:=@wrap_sub ρ (.int 1) K0
  try simp only [smA,smW] at *
  have:=@fn0_nn ρ (.fn 1 (.pr K2 (.int 6)))
  have:=@fn0_nn ρ (.fn 1 (.pr K2 (.int 20)))
  have:=@fn0_nn ρ (.fn 1 (.pr K2 (.int 21)))
  obtain ⟨a7,ea7,qa7⟩:=cs_i64 ((1) - (E.I ρ K0))
  try simp only [ea7] at *
  grind
 exact t162_0 gp (by simp only [ints_app,ints_nil,ints_40z,List.nil_append,List.append_nil,List.append_assoc])
def F540:E:=(.imp (.and (.not K1) (.and K5 K7)) (.fn 162 (.pr (.fn 3 (.pr (.fn 1 (.pr K2 (.int 20))) (.fn 1 (.pr K2 (.int 21))))) K3)))
theorem G540:Tr F540:=ii5 fun ρ p0 p1 p2 p3 p4=>by
 obtain ⟨gp,g6⟩:E.I ρ K0=(0)∧E.I ρ (.fn 0 (.fn 1 (.pr K2 (.int 6))))=(0):=by
  have:=t117 p4
  have:=@wrap_sub ρ (.int 1) K0
  try simp only [smA,smW] at *
  have:=@fn0_nn ρ (.fn 1 (.pr K2 (.int 6)))
  have:=@fn0_nn ρ (.fn 1 (.pr K2 (.int 20)))
  have:=@fn0_nn ρ (.fn 1 (.pr K2 (.int 21)))
  obtain ⟨a6,ea6,qa6⟩:=cs_i64 ((1) - (E.I ρ K0))
  try simp only [ea6] at *
  grind
 exact t162_0 gp (by simp only [ints_app,ints_nil,ints_40z,List.nil_append,List.append_nil,List.append_assoc,ints_nil_of g6])
def F541:E:=(.imp K48 K50)
theorem G541:Tr F541:=ii5 fun ρ p0 p1 p2 p3 p4=>by
 try simp only [smA,smW] at *
 obtain ⟨a6,ea6,qa6⟩:=cs_i64 ((E.I ρ K11) + (1))
 try simp only [ea6] at *
 grind
def F542:E:=(.imp K59 K60)
theorem G542:Tr F542:=ii8 fun ρ p0 p1 p2 p3 p4 p5 p6 p7=>by
 try simp only [smA,smW] at *
 omega
def F543:E:=(.imp (.and K27 (.and K29 K36)) (.not (.cmp .lss K26 K38)))
theorem G543:Tr F543:=ii6 fun ρ p0 p1 p2 p3 p4 p5=>by
 try simp only [smA,smW] at *
 obtain ⟨a11,ea11,qa11⟩:=cs_i64 ((E.I ρ K25) + (1))
 try simp only [ea11] at *
 grind
def F544:E:=(.imp K61 K60)
theorem G544:Tr F544:=ii7 fun ρ p0 p1 p2 p3 p4 p5 p6=>by
 try simp only [smA,smW] at *
 omega
def F545:E:=(.imp (.and (.not K14) (.and K63 K43)) (.fn 163 (.pr K30 K3)))
theorem G545:Tr F545:=ii5 fun ρ p0 p1 p2 p3 p4=>by
 have:=@t163_of ρ _ _ _ _ _ p3 p1
 try simp only [smA,smW] at *
 grind
def F546:E:=(.imp (.and K1 K7) (.fn 162 (.pr (.fn 3 (.pr (.fn 3 (.pr (.fn 1 (.pr K2 (.int 6))) (.fn 1 (.pr K2 (.int 20))))) (.fn 1 (.pr K2 (.int 7))))) K3)))
theorem G546:Tr F546:=ii4 fun ρ p0 p1 p2 p3=>by
 have gp:E.I ρ K0=(1):=by
  have:=t117 p3
  have:=@wrap_sub ρ (.int 1) K0
  try simp only [smA,smW] at *
  have:=@fn0_nn ρ (.fn 1 (.pr K2 (.int 6)))
  have:=@fn0_nn ρ (.fn 1 (.pr K2 (.int 20)))
  have:=@fn0_nn ρ (.fn 1 (.pr K2 (.int 7)))
  obtain ⟨a7,ea7,qa7⟩:=cs_i64 ((1) - (E.I ρ K0))
  try simp only [ea7] at *
  grind
 exact t162_1 gp (by simp only [ints_app,ints_nil,ints_40z,List.nil_append,List.append_nil,List.append_assoc])
def F547:E:=(.imp (.and K1 (.and K5 K7)) (.fn 162 (.pr (.fn 3 (.pr (.fn 1 (.pr K2 (.int 20))) (.fn 1 (.pr K2 (.int 7))))) K3)))
theorem G547:Tr F547:=ii5 fun ρ p0 p1 p2 p3 p4=>by
 obtain ⟨gp,g6⟩:E.I ρ K0=(1)∧E.I ρ (.fn 0 (.fn 1 (.pr K2 (.int 6))))=(0):=by
  have:=t117 p4
  have:=@wrap_sub ρ (.int 1) K0
  try simp only [smA,smW] at *
  have:=@fn0_nn ρ (.fn 1 (.pr K2 (.int 6)))
  have:=@fn0_nn ρ (.fn 1 (.pr K2 (.int 20)))
  have:=@fn0_nn ρ (.fn 1 (.pr K2 (.int 7)))
  obtain ⟨a6,ea6,qa6⟩:=cs_i64 ((1) - (E.I ρ K0))
  try simp only [ea6] at *
  grind
 exact t162_1 gp (by simp only [ints_app,ints_nil,ints_40z,List.nil_append,List.append_nil,List.append_assoc,ints_nil_of g6])
def F548:E:=(.imp K21 (.cmp .eql K22 (.int 1)))
theorem G548:Tr F548:=ii4 fun ρ p0 p1 p2 p3=>by
 try simp only [smA,smW] at *
 obtain ⟨a6,ea6,qa6⟩:=cs_i64 ((E.I ρ K11) + (1))
 try simp only [ea6] at *
 grind
def F549:E:=(.imp K65 K24)
theorem G549:Tr F549:=ii4 fun ρ p0 p1 p2 p3=>by
 try simp only [smA,smW] at *
 obtain ⟨a10,ea10,qa10⟩:=cs_i64 ((E.I ρ K11) + (1))
 try simp only [ea10] at *
 grind
def F550:E:=(.imp K65 K67)
theorem G550:Tr F550:=ii4 fun ρ p0 p1 p2 p3=>by
 try simp only [smA,smW] at *
 omega
def F551:E:=(.imp K59 K69)
theorem G551:Tr F551:=ii8 fun ρ p0 p1 p2 p3 p4 p5 p6 p7=>by
 try simp only [smA,smW] at *
 omega
def F552:E:=(.imp (.and K27 (.and K70 (.and K73 (.and K33 (.and K14 (.and K31 K35)))))) (.fn 160 (.pr K30 (.pr (.fn 1 (.pr K41 K11)) K38))))
theorem G552:Tr F552:=ii8 fun ρ p0 p1 p2 p3 p4 p5 p6 p7=>by
 have:=@wrap_add ρ K25 (.int 1)
 have:=@t160_step ρ K30 K25 K38 (.fn 1 (.pr K41 K11))
 try simp only [smA,smW] at *
 grind
def F553:E:=(.imp K74 K67)
theorem G553:Tr F553:=ii3 fun ρ p0 p1 p2=>by
 try simp only [smA,smW] at *
 omega
def F554:E:=(.imp K61 K69)
theorem G554:Tr F554:=ii7 fun ρ p0 p1 p2 p3 p4 p5 p6=>by
 try simp only [smA,smW] at *
 omega
def F555:E:=(.imp (.and K12 (.and K14 K75)) K78)
theorem G555:Tr F555:=ii5 fun ρ p0 p1 p2 p3 p4=>by
 have:=@wrap_add ρ K11 (.int 1)
 have:=@t152_p1 ρ K41 (.int 0) K11 K22 (.fn 1 (.pr K41 K11)) rfl
 try simp only [smA,smW] at *
 grind
def F556:E:=(.imp K65 K50)
theorem G556:Tr F556:=ii4 fun ρ p0 p1 p2 p3=>by
 try simp only [smA,smW] at *
 obtain ⟨a10,ea10,qa10⟩:=cs_i64 ((E.I ρ K11) + (1))
 try simp only [ea10] at *
 grind
def F557:E:=(.imp K65 K80)
theorem G557:Tr F557:=ii4 fun ρ p0 p1 p2 p3=>by
 try simp only [smA,smW] at *
 omega
def F558:E:=(.imp (.and K28 (.and (.not K64) (.and K29 (.and K33 K82)))) K24)
theorem G558:Tr F558:=ii8 fun ρ p0 p1 p2 p3 p4 p5 p6 p7=>by
 try simp only [smA,smW] at *
 obtain ⟨a11,ea11,qa11⟩:=cs_i64 ((E.I ρ K11) + (1))
 try simp only [ea11] at *
 grind
def F559:E:=(.imp (.and K28 K29) K67)
theorem G559:Tr F559:=ii2 fun ρ p0 p1=>by
 try simp only [smA,smW] at *
 omega
def F560:E:=(.imp K37 (.cmp .lss (.fn 7 (.pr K26 K38)) (.fn 7 (.pr K26 K25))))
theorem G560:Tr F560:=ii5 fun ρ p0 p1 p2 p3 p4=>by
 try simp only [smA,smW] at *
 obtain ⟨a11,ea11,qa11⟩:=cs_i64 ((E.I ρ K25) + (1))
 try simp only [ea11] at *
 grind
def F561:E:=K80
theorem G561:Tr F561:=fun ρ=>by
 unfold F561
 try simp only [smA,smW] at *
 omega
def F562:E:=(.imp (.and K27 K31) K67)
theorem G562:Tr F562:=ii2 fun ρ p0 p1=>by
 try simp only [smA,smW] at *
 omega
def F563:E:=(.imp K21 K83)
theorem G563:Tr F563:=ii4 fun ρ p0 p1 p2 p3=>by
 try simp only [smA,smW] at *
 obtain ⟨a6,ea6,qa6⟩:=cs_i64 ((E.I ρ K11) + (1))
 try simp only [ea6] at *
 grind
def F564:E:=(.imp K65 (.cmp .eql K22 (.int 1)))
theorem G564:Tr F564:=ii4 fun ρ p0 p1 p2 p3=>by
 try simp only [smA,smW] at *
 obtain ⟨a10,ea10,qa10⟩:=cs_i64 ((E.I ρ K11) + (1))
 try simp only [ea10] at *
 grind
def F565:E:=(.imp K65 K85)
theorem G565:Tr F565:=ii4 fun ρ p0 p1 p2 p3=>by
 try simp only [smA,smW] at *
 omega
def F566:E:=(.imp K91 K50)
theorem G566:Tr F566:=ii7 fun ρ p0 p1 p2 p3 p4 p5 p6=>by
 try simp only [smA,smW] at *
 obtain ⟨a11,ea11,qa11⟩:=cs_i64 ((E.I ρ K11) + (1))
 try simp only [ea11] at *
 grind
def F567:E:=(.imp (.and K27 (.and K29 K36)) (.not (.cmp .lss (.fn 7 (.pr K26 K38)) (.int 0))))
theorem G567:Tr F567:=ii6 fun ρ p0 p1 p2 p3 p4 p5=>by
 try simp only [smA,smW] at *
 obtain ⟨a11,ea11,qa11⟩:=cs_i64 ((E.I ρ K25) + (1))
 try simp only [ea11] at *
 grind
def F568:E:=(.imp (.and K64 K92) K85)
theorem G568:Tr F568:=ii6 fun ρ p0 p1 p2 p3 p4 p5=>by
 try simp only [smA,smW] at *
 omega
def F569:E:=(.imp K48 K94)
theorem G569:Tr F569:=ii5 fun ρ p0 p1 p2 p3 p4=>by
 try simp only [smA,smW] at *
 obtain ⟨a6,ea6,qa6⟩:=cs_i64 ((E.I ρ K11) + (1))
 try simp only [ea6] at *
 grind
def F570:E:=(.imp K65 K78)
theorem G570:Tr F570:=ii4 fun ρ p0 p1 p2 p3=>by
 try simp only [smA,smW] at *
 grind
def F571:E:=(.imp K96 (.cmp .eql (.fn 6 (.pr K25 (.int 1))) K22))
theorem G571:Tr F571:=ii6 fun ρ p0 p1 p2 p3 p4 p5=>by
 try simp only [smA,smW] at *
 obtain ⟨a11,ea11,qa11⟩:=cs_i64 ((E.I ρ K11) + (1))
 try simp only [ea11] at *
 grind
def F572:E:=(.imp K92 (.not (.cmp .lss (.int 2147483648) (.fn 6 (.pr (.fn 6 (.pr K25 (.int 1))) (.fn 7 (.pr K26 K25)))))))
theorem G572:Tr F572:=ii5 fun ρ p0 p1 p2 p3 p4=>by
 try simp only [smA,smW] at *
 omega
def F573:E:=(.imp (.and K27 (.and K64 K36)) K24)
theorem G573:Tr F573:=ii6 fun ρ p0 p1 p2 p3 p4 p5=>by
 try simp only [smA,smW] at *
 obtain ⟨a13,ea13,qa13⟩:=cs_i64 ((E.I ρ K11) + (1))
 try simp only [ea13] at *
 grind
def F574:E:=(.imp K65 K83)
theorem G574:Tr F574:=ii4 fun ρ p0 p1 p2 p3=>by
 try simp only [smA,smW] at *
 obtain ⟨a10,ea10,qa10⟩:=cs_i64 ((E.I ρ K11) + (1))
 try simp only [ea10] at *
 grind
def F575:E:=(.imp (.and K28 (.and (.cmp .eql (.var 13) K25) (.and K29 (.and K31 K44)))) (.cmp .eql (.fn 6 (.pr (.fn 0 (.fn 4 (.pr K30 (.pr (.int 0) K25)))) (.int 1))) (.fn 6 (.pr K25 (.int 1)))))
theorem G575:Tr F575:=ii5 fun ρ p0 p1 p2 p3 p4=>by
 have:=@len_4 ρ K30 (.int 0) K25
 try simp only [smA,smW] at *
 omega
def F576:E:=(.imp K99 K50)
theorem G576:Tr F576:=ii6 fun ρ p0 p1 p2 p3 p4 p5=>by
 try simp only [smA,smW] at *
 obtain ⟨a13,ea13,qa13⟩:=cs_i64 ((E.I ρ K11) + (1))
 try simp only [ea13] at *
 grind
def F577:E:=(.imp (.and K27 (.and (.not K64) K36)) K24)
theorem G577:Tr F577:=ii6 fun ρ p0 p1 p2 p3 p4 p5=>by
 try simp only [smA,smW] at *
 obtain ⟨a14,ea14,qa14⟩:=cs_i64 ((E.I ρ K11) + (1))
 try simp only [ea14] at *
 grind
def F578:E:=(.imp K65 K94)
theorem G578:Tr F578:=ii4 fun ρ p0 p1 p2 p3=>by
 try simp only [smA,smW] at *
 obtain ⟨a10,ea10,qa10⟩:=cs_i64 ((E.I ρ K11) + (1))
 try simp only [ea10] at *
 grind
def F579:E:=(.imp K65 K100)
theorem G579:Tr F579:=ii4 fun ρ p0 p1 p2 p3=>by
 try simp only [smA,smW] at *
 obtain ⟨a11,ea11,qa11⟩:=cs_i64 ((E.I ρ K11) + (1))
 try simp only [ea11] at *
 grind
def F580:E:=(.imp K109 (.fn 152 (.pr (.fn 3 (.pr (.fn 4 (.pr K30 (.pr (.int 0) K25))) (.fn 23 (.pr (.fn 1 (.pr K41 K11)) (.fn 10 (.int 0)))))) K76)))
theorem G580:Tr F580:=ii12 fun ρ p0 p1 p2 p3 p4 p5 p6 p7 p8 p9 p10 p11=>by
 have:=@wrap_add ρ K11 (.int 1)
 have:=@t152_q ρ _ _ _ _ K22 _ (.fn 0 K30) p5 p1 rfl
 try simp only [smA,smW] at *
 grind
def F581:E:=(.imp (.and K27 (.and K64 K36)) K100)
theorem G581:Tr F581:=ii6 fun ρ p0 p1 p2 p3 p4 p5=>by
 try simp only [smA,smW] at *
 obtain ⟨a13,ea13,qa13⟩:=cs_i64 ((E.I ρ K11) + (1))
 try simp only [ea13] at *
 grind
def F582:E:=(.imp K65 K111)
theorem G582:Tr F582:=ii4 fun ρ p0 p1 p2 p3=>by
 try simp only [smA,smW] at *
 omega
def F583:E:=(.imp K96 K83)
theorem G583:Tr F583:=ii6 fun ρ p0 p1 p2 p3 p4 p5=>by
 try simp only [smA,smW] at *
 obtain ⟨a11,ea11,qa11⟩:=cs_i64 ((E.I ρ K11) + (1))
 try simp only [ea11] at *
 grind
def F584:E:=(.imp K96 K112)
theorem G584:Tr F584:=ii6 fun ρ p0 p1 p2 p3 p4 p5=>by
 try simp only [smA,smW] at *
 obtain ⟨a12,ea12,qa12⟩:=cs_i64 ((E.I ρ K11) + (1))
 try simp only [ea12] at *
 grind
def F585:E:=(.imp K74 K111)
theorem G585:Tr F585:=ii3 fun ρ p0 p1 p2=>by
 try simp only [smA,smW] at *
 omega
def F586:E:=(.imp K37 K112)
theorem G586:Tr F586:=ii5 fun ρ p0 p1 p2 p3 p4=>by
 try simp only [smA,smW] at *
 obtain ⟨a14,ea14,qa14⟩:=cs_i64 ((E.I ρ K11) + (1))
 try simp only [ea14] at *
 grind
def F587:E:=(.imp K65 K113)
theorem G587:Tr F587:=ii4 fun ρ p0 p1 p2 p3=>by
 try simp only [smA,smW] at *
 omega
def F588:E:=(.imp K91 K94)
theorem G588:Tr F588:=ii7 fun ρ p0 p1 p2 p3 p4 p5 p6=>by
 try simp only [smA,smW] at *
 obtain ⟨a11,ea11,qa11⟩:=cs_i64 ((E.I ρ K11) + (1))
 try simp only [ea11] at *
 grind
def F589:E:=(.imp K44 (.not (.cmp .lss (.fn 6 (.pr (.fn 6 (.pr K25 (.int 1))) (.fn 7 (.pr K26 K25)))) (.int 1))))
theorem G589:Tr F589:=ii1 fun ρ p0=>by
 try simp only [smA,smW] at *
 omega
def F590:E:=(.imp K74 K113)
theorem G590:Tr F590:=ii3 fun ρ p0 p1 p2=>by
 have:=@len_4 ρ K30 K25 (.fn 6 (.pr K25 (.fn 7 (.pr K26 K25))))
 try simp only [smA,smW] at *
 omega
def F591:E:=(.imp K65 K115)
theorem G591:Tr F591:=ii4 fun ρ p0 p1 p2 p3=>by
 try simp only [smA,smW] at *
 grind
def F592:E:=(.imp (.and K28 (.and K29 (.and K31 K44))) K116)
theorem G592:Tr F592:=ii4 fun ρ p0 p1 p2 p3=>by
 have:=@len_4 ρ K30 (.int 0) K25
 have:=@len_4 ρ K30 K25 (.fn 6 (.pr K25 (.fn 7 (.pr K26 K25))))
 try simp only [smA,smW] at *
 omega
def F593:E:=(.imp (.and K27 (.and (.not K70) (.and K64 K121))) K115)
theorem G593:Tr F593:=ii12 fun ρ p0 p1 p2 p3 p4 p5 p6 p7 p8 p9 p10 p11=>by
 have:=@wrap_add ρ K11 (.int 1)
 have:=@t152_q ρ _ _ _ _ K22 _ (.fn 6 (.pr K25 (.fn 7 (.pr K26 K25)))) p6 p3 rfl
 try simp only [smA,smW] at *
 grind
def F594:E:=(.imp (.and K27 (.and K33 K31)) K116)
theorem G594:Tr F594:=ii3 fun ρ p0 p1 p2=>by
 have:=@len_4 ρ K30 (.int 0) K25
 have:=@len_4 ρ K30 K25 (.fn 6 (.pr K25 (.fn 7 (.pr K26 K25))))
 try simp only [smA,smW] at *
 omega
def F595:E:=(.imp K109 K123)
theorem G595:Tr F595:=ii12 fun ρ p0 p1 p2 p3 p4 p5 p6 p7 p8 p9 p10 p11=>by
 have:=@wrap_add ρ K11 (.int 1)
 have:=@t152_q ρ _ _ _ _ K22 _ (.fn 6 (.pr K25 (.fn 7 (.pr K26 K25)))) p5 p1 rfl
 try simp only [smA,smW] at *
 grind
def F596:E:=(.imp K37 K83)
theorem G596:Tr F596:=ii5 fun ρ p0 p1 p2 p3 p4=>by
 try simp only [smA,smW] at *
 obtain ⟨a13,ea13,qa13⟩:=cs_i64 ((E.I ρ K11) + (1))
 try simp only [ea13] at *
 grind
def F597:E:=(.imp (.and K27 (.and (.not K70) K121)) K123)
theorem G597:Tr F597:=ii11 fun ρ p0 p1 p2 p3 p4 p5 p6 p7 p8 p9 p10=>by
 have:=@wrap_add ρ K11 (.int 1)
 have:=@t152_q ρ _ _ _ _ K22 _ (.fn 6 (.pr K25 (.fn 7 (.pr K26 K25)))) p5 p2 rfl
 try simp only [smA,smW] at *
 grind
def F598:E:=(.imp K99 K94)
theorem G598:Tr F598:=ii6 fun ρ p0 p1 p2 p3 p4 p5=>by
 try simp only [smA,smW] at *
 obtain ⟨a13,ea13,qa13⟩:=cs_i64 ((E.I ρ K11) + (1))
 try simp only [ea13] at *
 grind
namespace p18
def facts:List E:=[F522,F452,F456,F455,F461,F462,F459,F464,F465,F463,F466,F523,F524,F474,F525,F526,F527,F485,F528,F497,F496,F529,F530,F531,F532,F533,F534,F535,F536,F537,F500,F503,F538,F539,F540,F541,F542,F543,F544,F545,F546,F547,F548,F549,F550,F551,F552,F553,F554,F555,F556,F557,F558,F559,F560,F561,F562,F563,F564,F565,F566,F567,F568,F569,F570,F571,F572,F573,F574,F575,F576,F577,F578,F579,F580,F581,F582,F583,F584,F585,F586,F587,F588,F589,F590,F591,F592,F593,F594,F595,F596,F597,F598]
theorem facts_ok:∀ e∈facts,Tr e:=(ac G522 (ac G452 (ac G456 (ac G455 (ac G461 (ac G462 (ac G459 (ac G464 (ac G465 (ac G463 (ac G466 (ac G523 (ac G524 (ac G474 (ac G525 (ac G526 (ac G527 (ac G485 (ac G528 (ac G497 (ac G496 (ac G529 (ac G530 (ac G531 (ac G532 (ac G533 (ac G534 (ac G535 (ac G536 (ac G537 (ac G500 (ac G503 (ac G538 (ac G539 (ac G540 (ac G541 (ac G542 (ac G543 (ac G544 (ac G545 (ac G546 (ac G547 (ac G548 (ac G549 (ac G550 (ac G551 (ac G552 (ac G553 (ac G554 (ac G555 (ac G556 (ac G557 (ac G558 (ac G559 (ac G560 (ac G561 (ac G562 (ac G563 (ac G564 (ac G565 (ac G566 (ac G567 (ac G568 (ac G569 (ac G570 (ac G571 (ac G572 (ac G573 (ac G574 (ac G575 (ac G576 (ac G577 (ac G578 (ac G579 (ac G580 (ac G581 (ac G582 (ac G583 (ac G584 (ac G585 (ac G586 (ac G587 (ac G588 (ac G589 (ac G590 (ac G591 (ac G592 (ac G593 (ac G594 (ac G595 (ac G596 (ac G597 (ac G598 all_nil)))))))))))))))))))))))))))))))))))))))))))))))))))))))))))))))))))))))))))))))))))))))))))))
end p18
theorem spec18_0:NatOk Try.prog (specNat (spRH)) :=
 spec_of_check good (facts:=p18.facts) p18.facts_ok (anns:=annRH) (plainAnns_ok _ (by kernel_rfl)) (nats:=natl19) natl19_ok (n:=3000) (by kernel_rfl)
def natl20:List Nat1:=specNat (spRH)::natl19
theorem natl20_ok:∀ x∈natl20,NatOk Try.prog x:=by
 intro x hx
 rcases List.mem_cons.1 hx with rfl | hx
 ·exact spec18_0
 exact natl19_ok x hx

def F599:E:=(.imp K128 (.not (.cmp .lss K129 (.int 0))))
theorem G599:Tr F599:=ii3 fun ρ p0 p1 p2=>by
 try simp only [smA,smW] at *
 obtain ⟨a2,ea2,qa2⟩:=cs_i64 ((E.I ρ K13) + (1))
 try simp only [ea2] at *
 grind
def F600:E:=(.imp K133 (.not (.cmp .lss (.fn 9 (.pr K2 (.int 5))) K129)))
theorem G600:Tr F600:=ii4 fun ρ p0 p1 p2 p3=>by
 try simp only [smA,smW] at *
 obtain ⟨a2,ea2,qa2⟩:=cs_i64 ((E.I ρ K13) + (1))
 try simp only [ea2] at *
 grind
def F601:E:=(.imp K128 (.cmp .lss (.fn 7 (.pr (.fn 9 (.pr K2 (.int 5))) K129)) (.fn 7 (.pr (.fn 9 (.pr K2 (.int 5))) K13))))
theorem G601:Tr F601:=ii3 fun ρ p0 p1 p2=>by
 try simp only [smA,smW] at *
 obtain ⟨a2,ea2,qa2⟩:=cs_i64 ((E.I ρ K13) + (1))
 try simp only [ea2] at *
 grind
def F602:E:=(.imp K133 (.not (.cmp .lss (.fn 7 (.pr (.fn 9 (.pr K2 (.int 5))) K129)) (.int 0))))
theorem G602:Tr F602:=ii4 fun ρ p0 p1 p2 p3=>by
 try simp only [smA,smW] at *
 obtain ⟨a2,ea2,qa2⟩:=cs_i64 ((E.I ρ K13) + (1))
 try simp only [ea2] at *
 grind
namespace p19
def facts:List E:=[F599,F600,F601,F602]
theorem facts_ok:∀ e∈facts,Tr e:=(ac G599 (ac G600 (ac G601 (ac G602 all_nil))))
end p19
theorem spec19_0:NatOk Try.prog (specNat (spTg)) :=
 spec_of_check good (facts:=p19.facts) p19.facts_ok (anns:=annTg) (plainAnns_ok _ (by kernel_rfl)) (nats:=natl20) natl20_ok (n:=3000) (by kernel_rfl)
def natl21:List Nat1:=specNat (spTg)::natl20
theorem natl21_ok:∀ x∈natl21,NatOk Try.prog x:=by
 intro x hx
 rcases List.mem_cons.1 hx with rfl | hx
 ·exact spec19_0
 exact natl20_ok x hx

def F603:E:=(.imp (.not K134) (.imp (.bool false) (.fn 117 K2)))
theorem G603:Tr F603:=ii1 fun ρ p0=>by
 try simp only [smA,smW] at *
 grind
def F604:E:=(.imp K137 (.not (.cmp .lss (.int 1000) (.fn 9 (.pr (.fn 1 (.pr K2 (.int 29))) (.int 5))))))
theorem G604:Tr F604:=ii1 fun ρ p0=>by
 have hm0:E.I ρ K135≤E.I ρ (.int 200):=le_of_B p0
 clear p0
 obtain ⟨hm1,hm2⟩:=mx_le hm0
 clear hm0
 obtain ⟨hm3,hm4⟩:=mx_le hm1
 clear hm1
 obtain ⟨hm5,hm6⟩:=mx_le hm3
 clear hm3
 obtain ⟨hm7,hm8⟩:=mx_le hm5
 clear hm5
 obtain ⟨hm9,hm10⟩:=mx_le hm7
 clear hm7
 obtain ⟨hm11,hm12⟩:=mx_le hm9
 clear hm9
 obtain ⟨hm13,hm14⟩:=mx_le hm11
 clear hm11
 obtain ⟨hm15,hm16⟩:=mx_le hm13
 clear hm13
 obtain ⟨hm17,hm18⟩:=mx_le hm15
 clear hm15
 obtain ⟨hm19,hm20⟩:=mx_le hm17
 clear hm17
 obtain ⟨hm21,hm22⟩:=mx_le hm19
 clear hm19
 try simp only [smA,smW] at *
 omega
def F605:E:=(.imp K134 (.imp (.bool false) (.fn 117 K2)))
theorem G605:Tr F605:=ii1 fun ρ p0=>by
 try simp only [smA,smW] at *
 grind
def F606:E:=(.imp K137 (.not (.cmp .lss (.int 1000) (.fn 9 (.pr (.fn 1 (.pr K2 (.int 30))) (.int 5))))))
theorem G606:Tr F606:=ii1 fun ρ p0=>by
 have hm0:E.I ρ K135≤E.I ρ (.int 200):=le_of_B p0
 clear p0
 obtain ⟨hm1,hm2⟩:=mx_le hm0
 clear hm0
 obtain ⟨hm3,hm4⟩:=mx_le hm1
 clear hm1
 obtain ⟨hm5,hm6⟩:=mx_le hm3
 clear hm3
 obtain ⟨hm7,hm8⟩:=mx_le hm5
 clear hm5
 obtain ⟨hm9,hm10⟩:=mx_le hm7
 clear hm7
 obtain ⟨hm11,hm12⟩:=mx_le hm9
 clear hm9
 obtain ⟨hm13,hm14⟩:=mx_le hm11
 clear hm11
 obtain ⟨hm15,hm16⟩:=mx_le hm13
 clear hm13
 obtain ⟨hm17,hm18⟩:=mx_le hm15
 clear hm15
 obtain ⟨hm19,hm20⟩:=mx_le hm17
 clear hm17
 obtain ⟨hm21,hm22⟩:=mx_le hm19
 clear hm19
 try simp only [smA,smW] at *
 omega
def F607:E:=(.imp (.and (.not K134) K137) (.imp (.not (.cmp .lss (.int 400) (.var 2))) (.fn 117 K2)))
theorem G607:Tr F607:=ii2 fun ρ p0 p1=>by
 have hm0:E.I ρ K135≤E.I ρ (.int 200):=le_of_B p1
 clear p1
 obtain ⟨hm1,hm2⟩:=mx_le hm0
 clear hm0
 obtain ⟨hm3,hm4⟩:=mx_le hm1
 clear hm1
 obtain ⟨hm5,hm6⟩:=mx_le hm3
 clear hm3
 obtain ⟨hm7,hm8⟩:=mx_le hm5
 clear hm5
 obtain ⟨hm9,hm10⟩:=mx_le hm7
 clear hm7
 obtain ⟨hm11,hm12⟩:=mx_le hm9
 clear hm9
 obtain ⟨hm13,hm14⟩:=mx_le hm11
 clear hm11
 obtain ⟨hm15,hm16⟩:=mx_le hm13
 clear hm13
 obtain ⟨hm17,hm18⟩:=mx_le hm15
 clear hm15
 obtain ⟨hm19,hm20⟩:=mx_le hm17
 clear hm17
 obtain ⟨hm21,hm22⟩:=mx_le hm19
 clear hm19
 have:=@z117h ρ K2
 try simp only [smA,smW] at *
 grind
namespace p20
def facts:List E:=[F603,F604,F605,F606,F607]
theorem facts_ok:∀ e∈facts,Tr e:=(ac G603 (ac G604 (ac G605 (ac G606 (ac G607 all_nil)))))
end p20
theorem spec20_0:NatOk Try.prog (specNat (spSm)) :=
 spec_of_check good (facts:=p20.facts) p20.facts_ok (anns:=[]) (plainAnns_ok _ (by kernel_rfl)) (nats:=natl21) natl21_ok (n:=3000) (by kernel_rfl)
def natl22:List Nat1:=specNat (spSm)::natl21
theorem natl22_ok:∀ x∈natl22,NatOk Try.prog x:=by
 intro x hx
 rcases List.mem_cons.1 hx with rfl | hx
 ·exact spec20_0
 exact natl21_ok x hx

def F608:E:=(.imp (.not K139) K144)
theorem G608:Tr F608:=ii1 fun ρ p0=>by
 try simp only [smA,smW] at *
 grind
def F609:E:=(.imp K139 K145)
theorem G609:Tr F609:=ii1 fun ρ p0=>by
 try simp only [smA,smW] at *
 omega
def F610:E:=(.fn 161 (.pr K2 (.pr K140 (.int 0))))
theorem G610:Tr F610:=fun ρ=>by
 unfold F610
 have:=@t161_zero ρ K2 K140 (.int 0)
 try simp only [smA,smW] at *
 grind
def F611:E:=(.imp (.and K146 K150) (.cmp .lss K41 K138))
theorem G611:Tr F611:=ii4 fun ρ p0 p1 p2 p3=>by
 try simp only [smA,smW] at *
 omega
def F612:E:=(.imp (.and (.not K146) (.and (.fn 161 (.pr K2 (.pr K140 K41))) (.and K151 K145))) (.iff (.bool true) K143))
theorem G612:Tr F612:=ii4 fun ρ p0 p1 p2 p3=>by
 have:=@t161_eq ρ _ _ _ K0 p1
 try simp only [smA,smW] at *
 grind
def F613:E:=(.imp (.and K146 (.and (.not K152) (.and K154 K150))) K144)
theorem G613:Tr F613:=ii6 fun ρ p0 p1 p2 p3 p4 p5=>by
 have:=@t161_fail ρ K2 K140 K41 K0
 try simp only [smA,smW] at *
 grind
def F614:E:=(.imp K159 (.not (.cmp .lss K160 (.int 0))))
theorem G614:Tr F614:=ii4 fun ρ p0 p1 p2 p3=>by
 try simp only [smA,smW] at *
 obtain ⟨a9,ea9,qa9⟩:=cs_i64 ((E.I ρ K41) + (1))
 try simp only [ea9] at *
 grind
def F615:E:=(.imp K162 (.not (.cmp .lss K0 K160)))
theorem G615:Tr F615:=ii5 fun ρ p0 p1 p2 p3 p4=>by
 try simp only [smA,smW] at *
 obtain ⟨a9,ea9,qa9⟩:=cs_i64 ((E.I ρ K41) + (1))
 try simp only [ea9] at *
 grind
def F616:E:=(.imp (.and K146 (.and K152 (.and (.fn 161 (.pr K2 (.pr K140 K41))) (.and K154 (.and K145 (.and K156 K149)))))) (.fn 161 (.pr K2 (.pr K140 K160))))
theorem G616:Tr F616:=ii8 fun ρ p0 p1 p2 p3 p4 p5 p6 p7=>by
 have:=@wrap_add ρ K41 (.int 1)
 have:=@t161_step ρ _ _ _ K160 p2
 try simp only [smA,smW] at *
 grind
def F617:E:=(.imp K159 (.cmp .lss (.fn 7 (.pr K0 K160)) (.fn 7 (.pr K0 K41))))
theorem G617:Tr F617:=ii4 fun ρ p0 p1 p2 p3=>by
 try simp only [smA,smW] at *
 obtain ⟨a9,ea9,qa9⟩:=cs_i64 ((E.I ρ K41) + (1))
 try simp only [ea9] at *
 grind
def F618:E:=(.imp K162 (.not (.cmp .lss (.fn 7 (.pr K0 K160)) (.int 0))))
theorem G618:Tr F618:=ii5 fun ρ p0 p1 p2 p3 p4=>by
 try simp only [smA,smW] at *
 obtain ⟨a9,ea9,qa9⟩:=cs_i64 ((E.I ρ K41) + (1))
 try simp only [ea9] at *
 grind
namespace p21
def facts:List E:=[F608,F609,F610,F611,F612,F613,F614,F615,F616,F617,F618]
theorem facts_ok:∀ e∈facts,Tr e:=(ac G608 (ac G609 (ac G610 (ac G611 (ac G612 (ac G613 (ac G614 (ac G615 (ac G616 (ac G617 (ac G618 all_nil)))))))))))
end p21
theorem spec21_0:NatOk Try.prog (specNat (spIn)) :=
 spec_of_check good (facts:=p21.facts) p21.facts_ok (anns:=annIn) (plainAnns_ok _ (by kernel_rfl)) (nats:=natl22) natl22_ok (n:=3000) (by kernel_rfl)
def natl23:List Nat1:=specNat (spIn)::natl22
theorem natl23_ok:∀ x∈natl23,NatOk Try.prog x:=by
 intro x hx
 rcases List.mem_cons.1 hx with rfl | hx
 ·exact spec21_0
 exact natl22_ok x hx

def F619:E:=(.imp (.and K163 K167) (.not K140))
theorem G619:Tr F619:=ii3 fun ρ p0 p1 p2=>by
 have:=@z145 ρ K0 K2
 try simp only [smA,smW] at *
 grind
def F620:E:=(.imp (.and K168 K167) (.not K140))
theorem G620:Tr F620:=ii3 fun ρ p0 p1 p2=>by
 have:=@z145 ρ K0 K2
 try simp only [smA,smW] at *
 grind
def F621:E:=(.imp (.and K163 K169) (.not K138))
theorem G621:Tr F621:=ii3 fun ρ p0 p1 p2=>by
 have:=@z145 ρ K0 K2
 try simp only [smA,smW] at *
 grind
def F622:E:=(.imp (.and K168 K169) (.not K138))
theorem G622:Tr F622:=ii3 fun ρ p0 p1 p2=>by
 have:=@z145 ρ K0 K2
 try simp only [smA,smW] at *
 grind
def F623:E:=(.imp (.and K163 K170) (.not (.var 5)))
theorem G623:Tr F623:=ii3 fun ρ p0 p1 p2=>by
 have:=@z145 ρ K0 K2
 try simp only [smA,smW] at *
 grind
def F624:E:=(.imp (.and K168 K170) (.not (.var 5)))
theorem G624:Tr F624:=ii3 fun ρ p0 p1 p2=>by
 have:=@z145 ρ K0 K2
 try simp only [smA,smW] at *
 grind
def F625:E:=(.imp (.and K163 K172) (.not (.var 6)))
theorem G625:Tr F625:=ii3 fun ρ p0 p1 p2=>by
 have:=@z145 ρ K0 K2
 try simp only [smA,smW] at *
 grind
def F626:E:=(.imp (.and K168 K172) (.not (.var 6)))
theorem G626:Tr F626:=ii3 fun ρ p0 p1 p2=>by
 have:=@z145 ρ K0 K2
 try simp only [smA,smW] at *
 grind
def F627:E:=(.imp (.and K4 K171) (.var 6))
theorem G627:Tr F627:=ii2 fun ρ p0 p1=>by
 have:=@z145 ρ K0 K2
 try simp only [smA,smW] at *
 grind
def F628:E:=(.imp (.and (.fn 163 (.pr K140 K3)) (.and K147 (.and (.fn 163 (.pr (.var 7) K3)) (.and (.cmp .eql (.fn 0 (.var 7)) K41) (.iff (.var 10) (.and (.cmp .eql K138 K41) (.fn 161 (.pr K140 (.pr (.var 7) K138))))))))) (.var 10))
theorem G628:Tr F628:=ii5 fun ρ p0 p1 p2 p3 p4=>by
 have:=@t163_same ρ _ _ _ K138 _ p0 p2
 try simp only [smA,smW] at *
 grind
def F629:E:=(.imp (.and (.fn 163 (.pr K140 K3)) (.and K147 (.not (.cmp .lss K138 (.int 1))))) (.not K10))
theorem G629:Tr F629:=ii3 fun ρ p0 p1 p2=>by
 have:=@t163_same ρ _ (.fn 10 (.int 0)) _ (.int 0) _ p0
 have hnx:E.I ρ (.fn 0 (.fn 10 (.int 0)))=0:=rfl
 try simp only [smA,smW] at *
 grind
def F630:E:=(.imp K173 K168)
theorem G630:Tr F630:=ii2 fun ρ p0 p1=>by
 have:=@z145 ρ K0 K2
 try simp only [smA,smW] at *
 grind
def F631:E:=(.imp (.and K4 K165) K140)
theorem G631:Tr F631:=ii2 fun ρ p0 p1=>by
 have:=@z145 ρ K0 K2
 try simp only [smA,smW] at *
 grind
def F632:E:=(.imp (.and K10 (.and (.fn 163 (.pr K138 K3)) (.cmp .eql (.fn 0 K138) (.var 5)))) (.cmp .lss (.var 5) (.int 1)))
theorem G632:Tr F632:=ii3 fun ρ p0 p1 p2=>by
 have:=@t163_same ρ _ _ _ (.int 0) _ p0 p1
 have hnx:E.I ρ (.fn 0 (.fn 10 (.int 0)))=0:=rfl
 try simp only [smA,smW] at *
 grind
def F633:E:=(.imp K173 (.not (.cmp .lss K0 (.int 0))))
theorem G633:Tr F633:=ii2 fun ρ p0 p1=>by
 have:=@z145 ρ K0 K2
 try simp only [smA,smW] at *
 grind
def F634:E:=(.imp K173 (.not (.cmp .lss (.int 1) K0)))
theorem G634:Tr F634:=ii2 fun ρ p0 p1=>by
 have:=@z145 ρ K0 K2
 try simp only [smA,smW] at *
 grind
namespace m
def facts:List E:=[F619,F620,F621,F622,F623,F624,F625,F626,F627,F628,F629,F630,F631,F632,F633,F634]
theorem facts_ok:∀ e∈facts,Tr e:=(ac G619 (ac G620 (ac G621 (ac G622 (ac G623 (ac G624 (ac G625 (ac G626 (ac G627 (ac G628 (ac G629 (ac G630 (ac G631 (ac G632 (ac G633 (ac G634 all_nil))))))))))))))))
end m
theorem reckoned:withTab Try.prog (fun tb=>checkAll outTrue (run Try.prog (tb.plus m.facts [] natl23) 3000 (.call 4 args) .nil (varSt 2 pc0) SX.one))=true:=by kernel_rfl

theorem walk {H:Type} (W:World) (base:Nat) (enc:TypeId × Value→H) (v0:Value) (d0:DataW H) (p0:List MemPlace) (v1:Value) (d1:DataW H) (p1:List MemPlace)
  (o0:Value.okWide Try.prog W .any base 33 v0) (h0:DataW.Trod enc Try.prog W 0 (fun _=>true) true 33 v0 d0 p0)
  (o1:Value.okWide Try.prog W .any base 3 v1) (h1:DataW.Trod enc Try.prog W 0 (fun _=>true) true 3 v1 d1 p1) :
  Calls Try.prog 4 #[v0,v1] W fun e W'=>e=.returned (.bool true)∧Below W.heap.size W W':=by
 obtain ⟨x0,rfl,l0,k0,w0,s0⟩:=open_row bulkOk (n:=9) (ks:=kB) Try.underlying33 (by kernel_rfl) o0 h0
 obtain ⟨x1,rfl,_,_,w1⟩:=open_int Try.underlying3 o1 h1
 have r1:=wf_i64 w1

 refine true_of_check2 good (facts:=m.facts) m.facts_ok (anns:=[]) (plainAnns_ok _ (by kernel_rfl)) natl23_ok (vs:=[.lst x0,.int x1]) (pc:=pc0) reckoned ?_ W ⟨⟨k0 0 _ rfl,trivial,trivial,trivial,trivial,trivial,k0 6 _ rfl,k0 7 _ rfl,k0 8 _ rfl,k0 9 _ rfl,trivial,trivial,trivial,trivial,trivial,trivial,trivial,trivial,trivial,trivial,k0 20 _ rfl,k0 21 _ rfl,k0 22 _ rfl,k0 23 _ rfl,trivial,trivial,trivial,trivial,trivial,k0 29 _ rfl,k0 30 _ rfl,k0 31 _ rfl,k0 32 _ rfl,trivial,trivial,trivial,trivial,trivial,trivial⟩,⟨trivial,trivial⟩⟩
 unfold pc0
 try simp only [u64R,i64R,List.cons_append,List.nil_append]
 repeat' (refine pc_cons ?_ ?_)
 all_goals first
  | exact pc_nil
  | (exact ty_board l0 w0)
  | (first | fail | skip; done)
  | (simp only [eLe,eLt,eV,Env.of,sm_I_int,sm_I_var,sm_B_lss,sm_B_not,getD_cons_zero,getD_cons_succ,toI_int]; omega)

set_option maxRecDepth 100000 in
theorem lifted (os : Os) (started : os.Started) (H : Type) (enc : TypeId × Value → H) :
    ReturnsInHanded {} Try.checked os 4 .any (Rows.viewHiddenSpec.pre6 enc Try.prog Try.f4 Rows.viewHiddenRow.domain false) (Rows.viewHiddenSpec.post enc Try.prog Try.f4 false true false false) := by
  refine returnsInHanded_of_change (C := Try.checked) own started (by kernel_rfl) Try.func4
    (ChangeSpec.witness6 (enc := enc) (C := Try.checked) false ⟨#[], #[.agg #[.slice none 0 0, .int .i64 0, .int .i64 0, .int .i64 0, .int .i64 0, .int .i64 0, .slice none 0 0, .slice none 0 0, .slice none 0 0, .slice none 0 0, .bool false, .bool false, .bool false, .int .i64 0, .int .i64 0, .int .i64 0, .int .i64 0, .int .i64 0, .int .i64 0, .int .i64 0, .slice none 0 0, .slice none 0 0, .slice none 0 0, .slice none 0 0, .bool false, .bool false, .bool false, .int .i64 0, .int .i64 0, .slice none 0 0, .slice none 0 0, .slice none 0 0, .slice none 0 0, .int .i64 0, .int .i64 0, .int .i64 0, .int .i64 0, .int .i64 0], .int .i64 0], []⟩ 8 (by kernel_rfl) (by kernel_rfl) (by kernel_rfl) (by kernel_rfl)) ?_
  intro W base args ds gs before hval0 hW hcnd _
  have hval : ∀ (j : Nat) t v, Try.f4.params[j]? = some t → args[j]? = some v → Value.okWide Try.prog W .any base t v := hval0
  have hW' := hW
  obtain ⟨p, q, hA0, hV, rfl, hfz, hnd⟩ := hW
  have hA : DataW.TrodAll enc Try.prog W 0 (fun _ => true) true Try.f4.params.toList args.toList ds p := hA0
  rw [Try.params4] at hA hval
  obtain ⟨v0, vs0, d0, ds0, p0, q0, hargs, rfl, rfl, h0, r0⟩ := trodAll_cons hA
  obtain ⟨v1, vs1, d1, ds1, p1, q1, rfl, rfl, rfl, h1, r1⟩ := trodAll_cons r0
  obtain ⟨rfl, rfl, rfl⟩ := trodAll_nil r1
  obtain rfl : args = #[v0, v1] := by cases args; simp_all
  obtain ⟨rfl, rfl⟩ := trodVars_none hV
  have lt0 : ∀ x ∈ p0, x.block < W.heap.size := by obtain ⟨m, hm⟩ := h0; exact DataW.trod_lt m _ _ _ hm
  have lt1 : ∀ x ∈ p1, x.block < W.heap.size := by obtain ⟨m, hm⟩ := h1; exact DataW.trod_lt m _ _ _ hm
  have o0 := hval 0 33 v0 rfl rfl
  have o1 := hval 1 3 v1 rfl rfl
  clear hA0 hval0
  refine (walk W base enc v0 d0 p0 v1 d1 p1 o0 h0 o1 h1).mono fun e W' ⟨he, bel⟩ => ?_
  subst he
  exact ⟨_, rfl, _, _, _, [], _, [], hW', trodAll_mk1 (shut_bool Try.underlying4 _), (trodAll_cons_mk (Below.trod laidOut (by kernel_rfl) (of_decide_eq_true (by kernel_rfl)) h0 bel lt0) (trodAll_cons_mk (Below.trod laidOut (by kernel_rfl) (of_decide_eq_true (by kernel_rfl)) h1 bel lt1) trodAll_mk0)), rfl, bel.frame _, fun h => by cases h⟩

theorem over:Rows.viewHiddenRow.holds Try.pinned (OpenSpec.ofChange Rows.viewHiddenSpec) :=
 OpenClaim.holds_of_wide 4 Try.f4 rfl rfl rfl rfl rfl rfl rfl ⟨rfl,rfl,rfl,rfl,rfl⟩ rfl rfl rfl rfl rfl (by kernel_rfl) Try.func4 (by kernel_rfl)
  (of_decide_eq_true (by kernel_rfl)) (by unfold Func.isWrapper; first | (rw [if_pos (by decide +kernel)]; kernel_rfl) | (rw [if_neg (by decide +kernel)]; exact ⟨rfl,rfl⟩))
  (fun os started H enc _=>lifted os started H enc)

theorem proved:Rows.ViewHiddenSaid:=over

end
end Go.Proofs.Ytoicbojdnjcmiaa.viewHidden
