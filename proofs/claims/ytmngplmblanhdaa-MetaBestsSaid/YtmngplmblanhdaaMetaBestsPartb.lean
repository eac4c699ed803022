/-
  MetaBests: contracts of functions, part 2.
-/
import Derived.Test.YtmngplmblanhdaaRows
import Derived.Test.YtmngplmblanhdaaTheory
import Derived.WalkKit
import Derived.ProofKit
import Derived.OpenShut
import Derived.ChangeOld
import Derived.Below
import Derived.KernelRfl
import Derived.Lib.SmallJoins
import Derived.Test.YtmngplmblanhdaaMetaBestsParta
namespace Go.Proofs.Ytmngplmblanhdaa.metaBests
open Go.ChangeShapes Go.WideShapes Go.ChangeAt Go.RowKit
open Go.SX
set_option linter.unusedVariables false
set_option linter.unusedSimpArgs false
set_option maxRecDepth 100000
noncomputable section
abbrev J0:E:=.var 0
abbrev J1:E:=.var 1
abbrev J2:E:=.var 2
abbrev J3:E:=.var 4
abbrev J4:E:=.cmp .lss J3 (.fn 9 (.pr J0 (.int 3)))
abbrev J5:E:=.cmp .eql (.fn 1 (.pr J0 (.fn 6 (.pr (.fn 8 (.pr J3 (.int 3))) (.int 0))))) J1
abbrev J6:E:=.cmp .eql (.fn 1 (.pr J0 (.fn 6 (.pr (.fn 8 (.pr J3 (.int 3))) (.int 1))))) J2
abbrev J7:E:=.cmp .eql (.fn 1 (.pr J0 (.fn 6 (.pr (.fn 8 (.pr J3 (.int 3))) (.int 2))))) (.int 1)
abbrev J8:E:=.var 5
abbrev J9:E:=.cmp .lss (.fn 8 (.pr J3 (.int 2))) J8
abbrev J10:E:=.not J9
abbrev J11:E:=.not (.cmp .lss J8 (.int 0))
abbrev J12:E:=.not (.cmp .lss J3 (.int 0))
abbrev J13:E:=.cmp .eql J8 (.fn 102 (.pr J0 (.pr J3 (.pr J1 J2))))
abbrev J14:E:=.cmp .lss (.int 1000) (.fn 9 (.pr J0 (.int 3)))
abbrev J15:E:=.not J14
abbrev J16:E:=.and J12 (.and J13 J15)
abbrev J17:E:=.and J11 J16
abbrev J18:E:=.and J10 J17
abbrev J19:E:=.ar .add .i64 J8 (.int 2)
abbrev J20:E:=.ar .add .i64 J3 (.int 1)
abbrev J21:E:=.cmp .eql J19 (.fn 102 (.pr J0 (.pr J20 (.pr J1 J2))))
abbrev J22:E:=.cmp .eql (.fn 1 (.pr J0 (.fn 6 (.pr (.fn 8 (.pr J3 (.int 3))) (.int 0))))) J2
abbrev J23:E:=.cmp .eql (.fn 1 (.pr J0 (.fn 6 (.pr (.fn 8 (.pr J3 (.int 3))) (.int 2))))) (.int 2)
abbrev J24:E:=.and J23 J18
abbrev J25:E:=.cmp .eql (.fn 1 (.pr J0 (.fn 6 (.pr (.fn 8 (.pr J3 (.int 3))) (.int 2))))) (.int 3)
abbrev J26:E:=.and J25 J18
abbrev J27:E:=.and (.not J23) J26
abbrev J28:E:=.ar .add .i64 J8 (.int 1)
abbrev J29:E:=.cmp .eql J28 (.fn 102 (.pr J0 (.pr J20 (.pr J1 J2))))
abbrev J30:E:=.and (.not J25) J16
abbrev J31:E:=.and (.not J23) J30
abbrev J32:E:=.cmp .eql J8 (.fn 102 (.pr J0 (.pr J20 (.pr J1 J2))))
abbrev J33:E:=.cmp .eql (.fn 1 (.pr J0 (.fn 6 (.pr (.fn 8 (.pr J3 (.int 3))) (.int 1))))) J1
abbrev J34:E:=.and J5 (.and J6 (.and J22 (.not J33)))
abbrev J35:E:=.and J5 (.and (.not J6) (.and J22 J33))
abbrev J36:E:=.cmp .lss (.fn 9 (.pr J0 (.int 3))) J3
abbrev J37:E:=.not J36
abbrev J38:E:=.and J12 J15
abbrev J39:E:=.cmp .lss J20 (.int 0)
abbrev J40:E:=.not J39
abbrev J41:E:=.and J37 J38
abbrev J42:E:=.and J4 J41
abbrev J43:E:=.cmp .lss (.fn 9 (.pr J0 (.int 3))) J20
abbrev J44:E:=.not J43
abbrev J45:E:=.and J11 J15
abbrev J46:E:=.and J10 J45
abbrev J47:E:=.and J4 J46
abbrev J48:E:=.cmp .lss J28 (.int 0)
abbrev J49:E:=.not J48
abbrev J50:E:=.cmp .lss (.fn 8 (.pr J20 (.int 2))) J8
abbrev J51:E:=.not J50
abbrev J52:E:=.and J10 (.and J11 J38)
abbrev J53:E:=.and J4 J52
abbrev J54:E:=.cmp .lss (.fn 8 (.pr J20 (.int 2))) J19
abbrev J55:E:=.not J54
abbrev J56:E:=.cmp .lss (.fn 8 (.pr J20 (.int 2))) J28
abbrev J57:E:=.not J56
abbrev J58:E:=.cmp .lss (.fn 7 (.pr (.fn 9 (.pr J0 (.int 3))) J20)) (.fn 7 (.pr (.fn 9 (.pr J0 (.int 3))) J3))
abbrev J59:E:=.cmp .lss (.fn 7 (.pr (.fn 9 (.pr J0 (.int 3))) J20)) (.int 0)
abbrev J60:E:=.not J59
abbrev J61:E:=.var 3
abbrev J62:E:=.cmp .lss (.fn 8 (.pr (.fn 9 (.pr J0 (.int 3))) (.int 2))) J61
abbrev J63:E:=.not J62
abbrev J64:E:=.not (.cmp .lss J61 (.int 0))
abbrev J65:E:=.cmp .eql J61 (.fn 102 (.pr J0 (.pr (.fn 9 (.pr J0 (.int 3))) (.pr J1 J2))))
abbrev J66:E:=.cmp .lss (.fn 8 (.pr (.fn 9 (.pr J0 (.int 3))) (.int 2))) J3
abbrev J67:E:=.not J66
abbrev J68:E:=.cmp .eql J3 (.fn 102 (.pr J0 (.pr (.fn 9 (.pr J0 (.int 3))) (.pr J2 J1))))
abbrev J69:E:=.ar .add .i64 J61 J3
abbrev J70:E:=.cmp .eql (.fn 106 (.pr J0 (.pr J1 J2))) (.int 500)
abbrev J71:E:=.and J15 (.and J63 (.and J64 (.and J65 (.and J67 (.and J12 (.and J68 (.and (.not (.cmp .eql J1 J2)) (.not (.cmp .eql J69 (.int 0))))))))))
abbrev J72:E:=.ar .mul .i64 (.int 500) J61
abbrev J73:E:=.cmp .lss J3 J1
abbrev J74:E:=.cmp .lss J61 J1
abbrev J75:E:=.fn 101 (.pr J0 J1)
abbrev J76:E:=.cmp .lss (.int 1000) J2
abbrev J77:E:=.not J76
abbrev J78:E:=.fn 117 (.pr J0 J2)
abbrev J79:E:=.cmp .eql J61 J3
abbrev J80:E:=.not J79
abbrev J81:E:=.ar .add .i64 (.fn 1 (.pr (.fn 1 (.pr J0 J61)) J3)) (.fn 1 (.pr (.fn 1 (.pr J0 J3)) J61))
abbrev J82:E:=.cmp .eql J81 (.int 0)
abbrev J83:E:=.cmp .eql (.fn 105 (.pr J0 (.pr J61 J3))) (.int 500)
abbrev J84:E:=.not J82
abbrev J85:E:=.and J80 J84
abbrev J86:E:=.and J75 J85
abbrev J87:E:=.and J78 J86
abbrev J88:E:=.and J77 J87
abbrev J89:E:=.and J64 J88
abbrev J90:E:=.and J74 J89
abbrev J91:E:=.and J12 J90
abbrev J92:E:=.and J73 J91
abbrev J93:E:=.ar .mul .i64 (.int 1000) (.fn 1 (.pr (.fn 1 (.pr J0 J61)) J3))
abbrev J94:E:=.cmp .lss J61 (.fn 0 J0)
abbrev J95:E:=.cmp .lss (.fn 1 (.pr J0 J61)) (.int 0)
abbrev J96:E:=.pr J0 (.fn 0 J0)
abbrev J97:E:=.fn 114 J96
abbrev J98:E:=.not J97
abbrev J99:E:=.cmp .lss (.int 1000) (.fn 1 (.pr J0 J61))
abbrev J100:E:=.cmp .lss (.int 20) (.fn 0 J0)
abbrev J101:E:=.not J100
abbrev J102:E:=.ar .add .i64 J61 (.int 1)
abbrev J103:E:=.cmp .lss (.fn 0 J0) J61
abbrev J104:E:=.not J103
abbrev J105:E:=.and J64 J101
abbrev J106:E:=.and J94 J105
abbrev J107:E:=.and J104 J105
abbrev J108:E:=.and J94 J107
abbrev J109:E:=.pr J61 (.fn 0 J61)
abbrev J110:E:=.fn 114 J109
abbrev J111:E:=.cmp .eql (.fn 0 J61) J1
abbrev J112:E:=.and J111 J110
abbrev J113:E:=.not J112
abbrev J114:E:=.cmp .lss J8 J1
abbrev J115:E:=.cmp .lss J1 J8
abbrev J116:E:=.not J115
abbrev J117:E:=.cmp .eql (.var 6) (.fn 110 (.pr J0 (.pr J61 (.pr J1 J8))))
abbrev J118:E:=.var 7
abbrev J119:E:=.cmp .eql J118 (.fn 111 (.pr J0 (.pr J61 (.pr J1 J8))))
abbrev J120:E:=.var 11
abbrev J121:E:=.cmp .lss J120 (.fn 0 J61)
abbrev J122:E:=.cmp .lss (.fn 0 J61) J120
abbrev J123:E:=.not J122
abbrev J124:E:=.var 10
abbrev J125:E:=.cmp .lss J118 J124
abbrev J126:E:=.cmp .eql J124 (.fn 107 (.pr J0 (.pr J61 (.pr J8 J120))))
abbrev J127:E:=.cmp .lss (.int 20) (.fn 0 J61)
abbrev J128:E:=.not J127
abbrev J129:E:=.and J111 J128
abbrev J130:E:=.and J11 (.and J119 J129)
abbrev J131:E:=.and J114 J130
abbrev J132:E:=.and J126 J131
abbrev J133:E:=.and J123 J132
abbrev J134:E:=.and J125 J133
abbrev J135:E:=.and (.not J121) J134
abbrev J136:E:=.var 12
abbrev J137:E:=.cmp .lss (.int 1000) J136
abbrev J138:E:=.not J137
abbrev J139:E:=.cmp .lss J136 (.int 0)
abbrev J140:E:=.not J139
abbrev J141:E:=.cmp .lss J120 (.int 0)
abbrev J142:E:=.not J141
abbrev J143:E:=.cmp .lss (.fn 8 (.pr J120 (.int 1000000))) J124
abbrev J144:E:=.not J143
abbrev J145:E:=.cmp .lss J124 (.int 0)
abbrev J146:E:=.not J145
abbrev J147:E:=.and J110 J128
abbrev J148:E:=.ar .add .i64 J124 (.ar .mul .i64 (.fn 1 (.pr J61 J120)) J136)
abbrev J149:E:=.ar .add .i64 J120 (.int 1)
abbrev J150:E:=.and J146 J147
abbrev J151:E:=.and J144 J150
abbrev J152:E:=.and J142 J151
abbrev J153:E:=.and J140 J152
abbrev J154:E:=.and J138 J153
abbrev J155:E:=.and J121 J154
abbrev J156:E:=.and J11 J129
abbrev J157:E:=.and J114 J156
abbrev J158:E:=.and J142 J128
abbrev J159:E:=.and J121 J158
abbrev J160:E:=.and J116 J156
abbrev J161:E:=.and J114 J160
abbrev J162:E:=.and J123 J158
abbrev J163:E:=.and J121 J162
abbrev J164:E:=.cmp .eql (.var 6) (.int 2)
abbrev J165:E:=.cmp .eql J3 (.fn 110 (.pr J0 (.pr J61 (.pr J1 J1))))
abbrev J166:E:=.cmp .eql J8 (.fn 111 (.pr J0 (.pr J61 (.pr J1 J1))))
abbrev J167:E:=.cmp .eql (.var 6) (.int 0)
abbrev J168:E:=.and J166 J167
abbrev J169:E:=.and J165 J168
abbrev J170:E:=.bool false
abbrev J171:E:=.iff J170 J169
abbrev J172:E:=.imp J112 J171
abbrev J173:E:=.cmp .eql (.var 8) (.fn 111 (.pr J0 (.pr J61 (.pr J1 J1))))
abbrev J174:E:=.cmp .eql J118 (.fn 110 (.pr J0 (.pr J61 (.pr J1 J1))))
abbrev J175:E:=.cmp .eql J3 (.int 0)
abbrev J176:E:=.cmp .eql J8 (.int 0)
abbrev J177:E:=.and J176 J164
abbrev J178:E:=.and J175 J177
abbrev J179:E:=.iff J170 J178
abbrev J180:E:=.imp J113 J179
abbrev J181:E:=.and J110 J111
def F64:E:=(.cmp .eql (.fn 102 (.pr J0 (.pr (.int 0) (.pr J1 J2)))) (.int 0))
theorem G64:Tr F64:=fun ρ=>by
 unfold F64
 have:=@t102_zero ρ J0 J1 J2 (.int 0)
 try simp only [smA,smW] at *
 grind
def F65:E:=(.not (.cmp .lss (.fn 8 (.pr (.int 0) (.int 2))) (.int 0)))
theorem G65:Tr F65:=fun ρ=>by
 unfold F65
 try simp only [smA,smW] at *
 grind
def F66:E:=(.imp (.and J4 (.and J5 (.and J6 (.and J7 J18)))) J21)
theorem G66:Tr F66:=ii9 fun ρ p0 p1 p2 p3 p4 p5 p6 p7 p8=>by
 have:=@wrap_add ρ J3 (.int 1)
 have:=@t102_step ρ J0 J1 J2 J3 J20
 try simp only [smA,smW] at *
 obtain ⟨a10,ea10,qa10⟩:=cs_i64 ((E.I ρ J8) + (2))
 try simp only [ea10] at *
 grind
def F67:E:=(.imp (.and J4 (.and J5 (.and J6 (.and J22 J24)))) J21)
theorem G67:Tr F67:=ii10 fun ρ p0 p1 p2 p3 p4 p5 p6 p7 p8 p9=>by
 have:=@wrap_add ρ J3 (.int 1)
 have:=@t102_step ρ J0 J1 J2 J3 J20
 try simp only [smA,smW] at *
 obtain ⟨a10,ea10,qa10⟩:=cs_i64 ((E.I ρ J8) + (2))
 try simp only [ea10] at *
 grind
def F68:E:=(.imp (.and J4 (.and J5 (.and J6 (.and (.not J7) (.and J22 J27))))) J29)
theorem G68:Tr F68:=ii12 fun ρ p0 p1 p2 p3 p4 p5 p6 p7 p8 p9 p10 p11=>by
 have:=@wrap_add ρ J3 (.int 1)
 have:=@t102_step ρ J0 J1 J2 J3 J20
 try simp only [smA,smW] at *
 obtain ⟨a10,ea10,qa10⟩:=cs_i64 ((E.I ρ J8) + (1))
 try simp only [ea10] at *
 grind
def F69:E:=(.imp (.and J4 (.and J5 (.and J6 (.and (.not J7) (.and J22 J31))))) J32)
theorem G69:Tr F69:=ii10 fun ρ p0 p1 p2 p3 p4 p5 p6 p7 p8 p9=>by
 have:=@wrap_add ρ J3 (.int 1)
 have:=@t102_step ρ J0 J1 J2 J3 J20
 try simp only [smA,smW] at *
 grind
def F70:E:=(.imp J34 J29)
theorem G70:Tr F70:=ii4 fun ρ p0 p1 p2 p3=>by
 try simp only [smA,smW] at *
 obtain ⟨a10,ea10,qa10⟩:=cs_i64 ((E.I ρ J8) + (1))
 try simp only [ea10] at *
 grind
def F71:E:=(.imp J34 J32)
theorem G71:Tr F71:=ii4 fun ρ p0 p1 p2 p3=>by
 try simp only [smA,smW] at *
 grind
def F72:E:=(.imp (.and J4 (.and J5 (.and J6 (.and (.not J7) (.and (.not J22) J26))))) J29)
theorem G72:Tr F72:=ii11 fun ρ p0 p1 p2 p3 p4 p5 p6 p7 p8 p9 p10=>by
 have:=@wrap_add ρ J3 (.int 1)
 have:=@t102_step ρ J0 J1 J2 J3 J20
 try simp only [smA,smW] at *
 obtain ⟨a10,ea10,qa10⟩:=cs_i64 ((E.I ρ J8) + (1))
 try simp only [ea10] at *
 grind
def F73:E:=(.imp (.and J4 (.and (.not J7) (.and (.not J22) J30))) J32)
theorem G73:Tr F73:=ii7 fun ρ p0 p1 p2 p3 p4 p5 p6=>by
 have:=@wrap_add ρ J3 (.int 1)
 have:=@t102_step ρ J0 J1 J2 J3 J20
 try simp only [smA,smW] at *
 grind
def F74:E:=(.imp J35 J21)
theorem G74:Tr F74:=ii4 fun ρ p0 p1 p2 p3=>by
 try simp only [smA,smW] at *
 obtain ⟨a10,ea10,qa10⟩:=cs_i64 ((E.I ρ J8) + (2))
 try simp only [ea10] at *
 grind
def F75:E:=(.imp J35 J29)
theorem G75:Tr F75:=ii4 fun ρ p0 p1 p2 p3=>by
 try simp only [smA,smW] at *
 obtain ⟨a10,ea10,qa10⟩:=cs_i64 ((E.I ρ J8) + (1))
 try simp only [ea10] at *
 grind
def F76:E:=(.imp J35 J32)
theorem G76:Tr F76:=ii4 fun ρ p0 p1 p2 p3=>by
 try simp only [smA,smW] at *
 grind
def F77:E:=(.imp (.and J4 (.and J5 (.and (.not J6) (.and J22 (.and (.not J33) J16))))) J32)
theorem G77:Tr F77:=ii8 fun ρ p0 p1 p2 p3 p4 p5 p6 p7=>by
 have:=@wrap_add ρ J3 (.int 1)
 have:=@t102_step ρ J0 J1 J2 J3 J20
 try simp only [smA,smW] at *
 grind
def F78:E:=(.imp (.and J4 (.and (.not J6) (.and (.not J22) J16))) J32)
theorem G78:Tr F78:=ii6 fun ρ p0 p1 p2 p3 p4 p5=>by
 have:=@wrap_add ρ J3 (.int 1)
 have:=@t102_step ρ J0 J1 J2 J3 J20
 try simp only [smA,smW] at *
 grind
def F79:E:=(.imp (.and J4 (.and J22 (.and J33 J24))) J21)
theorem G79:Tr F79:=ii9 fun ρ p0 p1 p2 p3 p4 p5 p6 p7 p8=>by
 have:=@wrap_add ρ J3 (.int 1)
 have:=@t102_step ρ J0 J1 J2 J3 J20
 try simp only [smA,smW] at *
 obtain ⟨a10,ea10,qa10⟩:=cs_i64 ((E.I ρ J8) + (2))
 try simp only [ea10] at *
 grind
def F80:E:=(.imp (.and J4 (.and (.not J5) (.and J22 (.and J33 J27)))) J29)
theorem G80:Tr F80:=ii11 fun ρ p0 p1 p2 p3 p4 p5 p6 p7 p8 p9 p10=>by
 have:=@wrap_add ρ J3 (.int 1)
 have:=@t102_step ρ J0 J1 J2 J3 J20
 try simp only [smA,smW] at *
 obtain ⟨a10,ea10,qa10⟩:=cs_i64 ((E.I ρ J8) + (1))
 try simp only [ea10] at *
 grind
def F81:E:=(.imp (.and J4 (.and (.not J5) J31)) J32)
theorem G81:Tr F81:=ii7 fun ρ p0 p1 p2 p3 p4 p5 p6=>by
 have:=@wrap_add ρ J3 (.int 1)
 have:=@t102_step ρ J0 J1 J2 J3 J20
 try simp only [smA,smW] at *
 grind
def F82:E:=(.imp (.and J4 (.and (.not J5) (.and J22 (.and (.not J33) J16)))) J32)
theorem G82:Tr F82:=ii7 fun ρ p0 p1 p2 p3 p4 p5 p6=>by
 have:=@wrap_add ρ J3 (.int 1)
 have:=@t102_step ρ J0 J1 J2 J3 J20
 try simp only [smA,smW] at *
 grind
def F83:E:=(.imp (.and J4 (.and (.not J5) (.and (.not J33) J30))) J32)
theorem G83:Tr F83:=ii7 fun ρ p0 p1 p2 p3 p4 p5 p6=>by
 have:=@wrap_add ρ J3 (.int 1)
 have:=@t102_step ρ J0 J1 J2 J3 J20
 try simp only [smA,smW] at *
 grind
def F84:E:=(.imp (.and J4 (.and (.not J5) (.and (.not J22) J16))) J32)
theorem G84:Tr F84:=ii6 fun ρ p0 p1 p2 p3 p4 p5=>by
 have:=@wrap_add ρ J3 (.int 1)
 have:=@t102_step ρ J0 J1 J2 J3 J20
 try simp only [smA,smW] at *
 grind
def F85:E:=(.imp (.and (.not J4) (.and J37 J13)) (.cmp .eql J8 (.fn 102 (.pr J0 (.pr (.fn 9 (.pr J0 (.int 3))) (.pr J1 J2))))))
theorem G85:Tr F85:=ii3 fun ρ p0 p1 p2=>by
 have:=@t102_congr ρ J0 J1 J2 J3 (.fn 9 (.pr J0 (.int 3)))
 try simp only [smA,smW] at *
 grind
def F86:E:=(.imp (.and J4 J38) J40)
theorem G86:Tr F86:=ii3 fun ρ p0 p1 p2=>by
 try simp only [smA,smW] at *
 obtain ⟨a9,ea9,qa9⟩:=cs_i64 ((E.I ρ J3) + (1))
 try simp only [ea9] at *
 grind
def F87:E:=(.imp J34 J40)
theorem G87:Tr F87:=ii4 fun ρ p0 p1 p2 p3=>by
 try simp only [smA,smW] at *
 obtain ⟨a9,ea9,qa9⟩:=cs_i64 ((E.I ρ J3) + (1))
 try simp only [ea9] at *
 grind
def F88:E:=(.imp J35 J40)
theorem G88:Tr F88:=ii4 fun ρ p0 p1 p2 p3=>by
 try simp only [smA,smW] at *
 obtain ⟨a9,ea9,qa9⟩:=cs_i64 ((E.I ρ J3) + (1))
 try simp only [ea9] at *
 grind
def F89:E:=(.imp (.and (.not J4) (.and J10 J37)) (.not (.cmp .lss (.fn 8 (.pr (.fn 9 (.pr J0 (.int 3))) (.int 2))) J8)))
theorem G89:Tr F89:=ii3 fun ρ p0 p1 p2=>by
 try simp only [smA,smW] at *
 grind
def F90:E:=(.imp J42 J44)
theorem G90:Tr F90:=ii4 fun ρ p0 p1 p2 p3=>by
 try simp only [smA,smW] at *
 obtain ⟨a9,ea9,qa9⟩:=cs_i64 ((E.I ρ J3) + (1))
 try simp only [ea9] at *
 grind
def F91:E:=(.imp J34 J44)
theorem G91:Tr F91:=ii4 fun ρ p0 p1 p2 p3=>by
 try simp only [smA,smW] at *
 obtain ⟨a9,ea9,qa9⟩:=cs_i64 ((E.I ρ J3) + (1))
 try simp only [ea9] at *
 grind
def F92:E:=(.imp J35 J44)
theorem G92:Tr F92:=ii4 fun ρ p0 p1 p2 p3=>by
 try simp only [smA,smW] at *
 obtain ⟨a9,ea9,qa9⟩:=cs_i64 ((E.I ρ J3) + (1))
 try simp only [ea9] at *
 grind
def F93:E:=(.imp J47 (.not (.cmp .lss J19 (.int 0))))
theorem G93:Tr F93:=ii4 fun ρ p0 p1 p2 p3=>by
 try simp only [smA,smW] at *
 obtain ⟨a9,ea9,qa9⟩:=cs_i64 ((E.I ρ J8) + (2))
 try simp only [ea9] at *
 grind
def F94:E:=(.imp J47 J49)
theorem G94:Tr F94:=ii4 fun ρ p0 p1 p2 p3=>by
 try simp only [smA,smW] at *
 obtain ⟨a9,ea9,qa9⟩:=cs_i64 ((E.I ρ J8) + (1))
 try simp only [ea9] at *
 grind
def F95:E:=(.imp (.and J4 (.and J10 J38)) J51)
theorem G95:Tr F95:=ii4 fun ρ p0 p1 p2 p3=>by
 try simp only [smA,smW] at *
 obtain ⟨a9,ea9,qa9⟩:=cs_i64 ((E.I ρ J3) + (1))
 try simp only [ea9] at *
 grind
def F96:E:=(.imp J34 J49)
theorem G96:Tr F96:=ii4 fun ρ p0 p1 p2 p3=>by
 try simp only [smA,smW] at *
 obtain ⟨a9,ea9,qa9⟩:=cs_i64 ((E.I ρ J8) + (1))
 try simp only [ea9] at *
 grind
def F97:E:=(.imp J34 J51)
theorem G97:Tr F97:=ii4 fun ρ p0 p1 p2 p3=>by
 try simp only [smA,smW] at *
 obtain ⟨a9,ea9,qa9⟩:=cs_i64 ((E.I ρ J3) + (1))
 try simp only [ea9] at *
 grind
def F98:E:=(.imp J35 (.not (.cmp .lss J19 (.int 0))))
theorem G98:Tr F98:=ii4 fun ρ p0 p1 p2 p3=>by
 try simp only [smA,smW] at *
 obtain ⟨a9,ea9,qa9⟩:=cs_i64 ((E.I ρ J8) + (2))
 try simp only [ea9] at *
 grind
def F99:E:=(.imp J35 J49)
theorem G99:Tr F99:=ii4 fun ρ p0 p1 p2 p3=>by
 try simp only [smA,smW] at *
 obtain ⟨a9,ea9,qa9⟩:=cs_i64 ((E.I ρ J8) + (1))
 try simp only [ea9] at *
 grind
def F100:E:=(.imp J35 J51)
theorem G100:Tr F100:=ii4 fun ρ p0 p1 p2 p3=>by
 try simp only [smA,smW] at *
 obtain ⟨a9,ea9,qa9⟩:=cs_i64 ((E.I ρ J3) + (1))
 try simp only [ea9] at *
 grind
def F101:E:=(.imp J53 J55)
theorem G101:Tr F101:=ii5 fun ρ p0 p1 p2 p3 p4=>by
 try simp only [smA,smW] at *
 obtain ⟨a9,ea9,qa9⟩:=cs_i64 ((E.I ρ J3) + (1))
 try simp only [ea9] at *
 obtain ⟨a10,ea10,qa10⟩:=cs_i64 ((E.I ρ J8) + (2))
 try simp only [ea10] at *
 grind
def F102:E:=(.imp J53 J57)
theorem G102:Tr F102:=ii5 fun ρ p0 p1 p2 p3 p4=>by
 try simp only [smA,smW] at *
 obtain ⟨a9,ea9,qa9⟩:=cs_i64 ((E.I ρ J3) + (1))
 try simp only [ea9] at *
 obtain ⟨a10,ea10,qa10⟩:=cs_i64 ((E.I ρ J8) + (1))
 try simp only [ea10] at *
 grind
def F103:E:=(.imp (.and J4 J38) J58)
theorem G103:Tr F103:=ii3 fun ρ p0 p1 p2=>by
 try simp only [smA,smW] at *
 obtain ⟨a9,ea9,qa9⟩:=cs_i64 ((E.I ρ J3) + (1))
 try simp only [ea9] at *
 grind
def F104:E:=(.imp J34 J57)
theorem G104:Tr F104:=ii4 fun ρ p0 p1 p2 p3=>by
 try simp only [smA,smW] at *
 obtain ⟨a9,ea9,qa9⟩:=cs_i64 ((E.I ρ J3) + (1))
 try simp only [ea9] at *
 obtain ⟨a10,ea10,qa10⟩:=cs_i64 ((E.I ρ J8) + (1))
 try simp only [ea10] at *
 grind
def F105:E:=(.imp J34 J58)
theorem G105:Tr F105:=ii4 fun ρ p0 p1 p2 p3=>by
 try simp only [smA,smW] at *
 obtain ⟨a9,ea9,qa9⟩:=cs_i64 ((E.I ρ J3) + (1))
 try simp only [ea9] at *
 grind
def F106:E:=(.imp J35 J55)
theorem G106:Tr F106:=ii4 fun ρ p0 p1 p2 p3=>by
 try simp only [smA,smW] at *
 obtain ⟨a9,ea9,qa9⟩:=cs_i64 ((E.I ρ J3) + (1))
 try simp only [ea9] at *
 obtain ⟨a10,ea10,qa10⟩:=cs_i64 ((E.I ρ J8) + (2))
 try simp only [ea10] at *
 grind
def F107:E:=(.imp J35 J57)
theorem G107:Tr F107:=ii4 fun ρ p0 p1 p2 p3=>by
 try simp only [smA,smW] at *
 obtain ⟨a9,ea9,qa9⟩:=cs_i64 ((E.I ρ J3) + (1))
 try simp only [ea9] at *
 obtain ⟨a10,ea10,qa10⟩:=cs_i64 ((E.I ρ J8) + (1))
 try simp only [ea10] at *
 grind
def F108:E:=(.imp J35 J58)
theorem G108:Tr F108:=ii4 fun ρ p0 p1 p2 p3=>by
 try simp only [smA,smW] at *
 obtain ⟨a9,ea9,qa9⟩:=cs_i64 ((E.I ρ J3) + (1))
 try simp only [ea9] at *
 grind
def F109:E:=(.imp J42 J60)
theorem G109:Tr F109:=ii4 fun ρ p0 p1 p2 p3=>by
 try simp only [smA,smW] at *
 obtain ⟨a9,ea9,qa9⟩:=cs_i64 ((E.I ρ J3) + (1))
 try simp only [ea9] at *
 grind
def F110:E:=(.imp J34 J60)
theorem G110:Tr F110:=ii4 fun ρ p0 p1 p2 p3=>by
 try simp only [smA,smW] at *
 obtain ⟨a9,ea9,qa9⟩:=cs_i64 ((E.I ρ J3) + (1))
 try simp only [ea9] at *
 grind
def F111:E:=(.imp J35 J60)
theorem G111:Tr F111:=ii4 fun ρ p0 p1 p2 p3=>by
 try simp only [smA,smW] at *
 obtain ⟨a9,ea9,qa9⟩:=cs_i64 ((E.I ρ J3) + (1))
 try simp only [ea9] at *
 grind
namespace p3
def facts:List E:=[F64,F65,F66,F67,F68,F69,F70,F71,F72,F73,F74,F75,F76,F77,F78,F79,F80,F81,F82,F83,F84,F85,F86,F87,F88,F89,F90,F91,F92,F93,F94,F95,F96,F97,F98,F99,F100,F101,F102,F103,F104,F105,F106,F107,F108,F109,F110,F111]
theorem facts_ok:∀ e∈facts,Tr e:=(ac G64 (ac G65 (ac G66 (ac G67 (ac G68 (ac G69 (ac G70 (ac G71 (ac G72 (ac G73 (ac G74 (ac G75 (ac G76 (ac G77 (ac G78 (ac G79 (ac G80 (ac G81 (ac G82 (ac G83 (ac G84 (ac G85 (ac G86 (ac G87 (ac G88 (ac G89 (ac G90 (ac G91 (ac G92 (ac G93 (ac G94 (ac G95 (ac G96 (ac G97 (ac G98 (ac G99 (ac G100 (ac G101 (ac G102 (ac G103 (ac G104 (ac G105 (ac G106 (ac G107 (ac G108 (ac G109 (ac G110 (ac G111 all_nil))))))))))))))))))))))))))))))))))))))))))))))))
end p3
theorem spec3_0:NatOk Try.prog (specNat (spScore)) :=
 spec_of_check good (facts:=p3.facts) p3.facts_ok (anns:=annScore) (plainAnns_ok _ (by kernel_rfl)) (nats:=natl4) natl4_ok (n:=3000) (by kernel_rfl)
def natl5:List Nat1:=specNat (spScore)::natl4
theorem natl5_ok:∀ x∈natl5,NatOk Try.prog x:=by
 intro x hx
 rcases List.mem_cons.1 hx with rfl | hx
 ·exact spec3_0
 exact natl4_ok x hx

def F112:E:=(.cmp .eql (.fn 106 (.pr (.fn 10 (.int 0)) (.pr J0 J1))) (.int 500))
theorem G112:Tr F112:=fun ρ=>by
 unfold F112
 have:=@t106_nil ρ J0 J1 (.int 0)
 try simp only [smA,smW] at *
 grind
namespace p4
def facts:List E:=[F112]
theorem facts_ok:∀ e∈facts,Tr e:=(ac G112 all_nil)
end p4
theorem spec4_0:NatOk Try.prog (specNat (spRN)) :=
 spec_of_check good (facts:=p4.facts) p4.facts_ok (anns:=[]) (plainAnns_ok _ (by kernel_rfl)) (nats:=natl5) natl5_ok (n:=3000) (by kernel_rfl)
def natl6:List Nat1:=specNat (spRN)::natl5
theorem natl6_ok:∀ x∈natl6,NatOk Try.prog x:=by
 intro x hx
 rcases List.mem_cons.1 hx with rfl | hx
 ·exact spec4_0
 exact natl5_ok x hx

def F113:E:=(.imp (.and J15 (.and J63 (.and J64 (.and J65 (.and J67 (.and J12 (.and J68 (.and (.not (.cmp .eql J1 J2)) (.cmp .eql J69 (.int 0)))))))))) J70)
theorem G113:Tr F113:=ii9 fun ρ p0 p1 p2 p3 p4 p5 p6 p7 p8=>by
 have:=@t106_500 ρ J0 J1 J2
 try simp only [smA,smW] at *
 obtain ⟨a8,ea8,qa8⟩:=cs_i64 ((E.I ρ J61) + (E.I ρ J3))
 try simp only [ea8] at *
 grind
def F114:E:=(.imp J71 (.not (.cmp .eql (.ar .quo .i64 J69 (.int 2)) (.int 0))))
theorem G114:Tr F114:=ii9 fun ρ p0 p1 p2 p3 p4 p5 p6 p7 p8=>by
 have:=@t106_quo ρ J0 J1 J2 J3 J61
 try simp only [smA,smW] at *
 obtain ⟨a7,ea7,qa7⟩:=cs_i64 ((E.I ρ J61) + (E.I ρ J3))
 try simp only [ea7] at *
 grind
def F115:E:=(.imp (.cmp .eql J1 J2) J70)
theorem G115:Tr F115:=ii1 fun ρ p0=>by
 have:=@t106_500 ρ J0 J1 J2
 try simp only [smA,smW] at *
 grind
def F116:E:=(.imp J71 (.cmp .eql (.ar .quo .i64 J72 (.ar .quo .i64 J69 (.int 2))) (.fn 106 (.pr J0 (.pr J1 J2)))))
theorem G116:Tr F116:=ii9 fun ρ p0 p1 p2 p3 p4 p5 p6 p7 p8=>by
 have:=@t106_quo ρ J0 J1 J2 J3 J61
 try simp only [smA,smW] at *
 obtain ⟨a8,ea8,qa8⟩:=cs_i64 ((E.I ρ J61) + (E.I ρ J3))
 try simp only [ea8] at *
 grind
def F117:E:=(.imp J71 (.not (.cmp .lss (.ar .quo .i64 J72 (.ar .quo .i64 J69 (.int 2))) (.int 0))))
theorem G117:Tr F117:=ii9 fun ρ p0 p1 p2 p3 p4 p5 p6 p7 p8=>by
 have:=@t106_quo ρ J0 J1 J2 J3 J61
 try simp only [smA,smW] at *
 obtain ⟨a7,ea7,qa7⟩:=cs_i64 ((E.I ρ J61) + (E.I ρ J3))
 try simp only [ea7] at *
 grind
def F118:E:=(.imp J71 (.not (.cmp .lss (.int 1000) (.ar .quo .i64 J72 (.ar .quo .i64 J69 (.int 2))))))
theorem G118:Tr F118:=ii9 fun ρ p0 p1 p2 p3 p4 p5 p6 p7 p8=>by
 have:=@t106_quo ρ J0 J1 J2 J3 J61
 try simp only [smA,smW] at *
 obtain ⟨a7,ea7,qa7⟩:=cs_i64 ((E.I ρ J61) + (E.I ρ J3))
 try simp only [ea7] at *
 grind
namespace p5
def facts:List E:=[F113,F114,F115,F116,F117,F118]
theorem facts_ok:∀ e∈facts,Tr e:=(ac G113 (ac G114 (ac G115 (ac G116 (ac G117 (ac G118 all_nil))))))
end p5
theorem spec5_0:NatOk Try.prog (specNat (spRG)) :=
 spec_of_check good (facts:=p5.facts) p5.facts_ok (anns:=[]) (plainAnns_ok _ (by kernel_rfl)) (nats:=natl6) natl6_ok (n:=3000) (by kernel_rfl)
def natl7:List Nat1:=specNat (spRG)::natl6
theorem natl7_ok:∀ x∈natl7,NatOk Try.prog x:=by
 intro x hx
 rcases List.mem_cons.1 hx with rfl | hx
 ·exact spec5_0
 exact natl6_ok x hx

def F119:E:=(.imp (.and J73 (.and J74 (.and J64 J75))) (.cmp .lss J3 (.fn 0 (.fn 1 (.pr J0 J61)))))
theorem G119:Tr F119:=ii4 fun ρ p0 p1 p2 p3=>by
 have:=@t101_row ρ _ J61 _ p3
 try simp only [smA,smW] at *
 grind
def F120:E:=(.imp (.and J73 (.and J12 (.and J74 J75))) (.cmp .lss J61 (.fn 0 (.fn 1 (.pr J0 J3)))))
theorem G120:Tr F120:=ii4 fun ρ p0 p1 p2 p3=>by
 have:=@t101_row ρ _ J3 _ p3
 try simp only [smA,smW] at *
 grind
def F121:E:=(.imp (.and J73 (.and J12 (.and J74 (.and J64 (.and J77 (.and J78 (.and J75 (.and J80 J82)))))))) J83)
theorem G121:Tr F121:=ii9 fun ρ p0 p1 p2 p3 p4 p5 p6 p7 p8=>by
 have:=@t117_at ρ _ J61 J3 _ _ p5 p6
 have:=@t117_at ρ _ J3 J61 _ _ p5 p6
 have:=@t105_500 ρ J0 J61 J3
 try simp only [smA,smW] at *
 obtain ⟨a8,ea8,qa8⟩:=cs_i64 ((E.I ρ (.fn 1 (.pr (.fn 1 (.pr J0 J61)) J3))) + (E.I ρ (.fn 1 (.pr (.fn 1 (.pr J0 J3)) J61))))
 try simp only [ea8] at *
 grind
def F122:E:=(.imp J92 (.cmp .eql (.ar .quo .i64 J93 J81) (.fn 105 (.pr J0 (.pr J61 J3)))))
theorem G122:Tr F122:=ii9 fun ρ p0 p1 p2 p3 p4 p5 p6 p7 p8=>by
 have:=@t117_at ρ _ J61 J3 _ _ p5 p6
 have:=@t117_at ρ _ J3 J61 _ _ p5 p6
 have:=@t105_quo ρ J0 J61 J3
 try simp only [smA,smW] at *
 obtain ⟨a8,ea8,qa8⟩:=cs_i64 ((E.I ρ (.fn 1 (.pr (.fn 1 (.pr J0 J61)) J3))) + (E.I ρ (.fn 1 (.pr (.fn 1 (.pr J0 J3)) J61))))
 try simp only [ea8] at *
 grind
def F123:E:=(.imp J79 J83)
theorem G123:Tr F123:=ii1 fun ρ p0=>by
 have:=@t105_500 ρ J0 J61 J3
 try simp only [smA,smW] at *
 grind
def F124:E:=(.imp J92 (.not (.cmp .lss (.ar .quo .i64 J93 J81) (.int 0))))
theorem G124:Tr F124:=ii9 fun ρ p0 p1 p2 p3 p4 p5 p6 p7 p8=>by
 have:=@t117_at ρ _ J61 J3 _ _ p5 p6
 have:=@t117_at ρ _ J3 J61 _ _ p5 p6
 have:=@t105_quo ρ J0 J61 J3
 try simp only [smA,smW] at *
 obtain ⟨a7,ea7,qa7⟩:=cs_i64 ((E.I ρ (.fn 1 (.pr (.fn 1 (.pr J0 J61)) J3))) + (E.I ρ (.fn 1 (.pr (.fn 1 (.pr J0 J3)) J61))))
 try simp only [ea7] at *
 grind
def F125:E:=(.imp J92 (.not (.cmp .lss (.int 1000) (.ar .quo .i64 J93 J81))))
theorem G125:Tr F125:=ii9 fun ρ p0 p1 p2 p3 p4 p5 p6 p7 p8=>by
 have:=@t117_at ρ _ J61 J3 _ _ p5 p6
 have:=@t117_at ρ _ J3 J61 _ _ p5 p6
 have:=@t105_quo ρ J0 J61 J3
 try simp only [smA,smW] at *
 obtain ⟨a7,ea7,qa7⟩:=cs_i64 ((E.I ρ (.fn 1 (.pr (.fn 1 (.pr J0 J61)) J3))) + (E.I ρ (.fn 1 (.pr (.fn 1 (.pr J0 J3)) J61))))
 try simp only [ea7] at *
 grind
namespace p6
def facts:List E:=[F119,F120,F121,F122,F123,F124,F125]
theorem facts_ok:∀ e∈facts,Tr e:=(ac G119 (ac G120 (ac G121 (ac G122 (ac G123 (ac G124 (ac G125 all_nil)))))))
end p6
theorem spec6_0:NatOk Try.prog (specNat (spRate)) :=
 spec_of_check good (facts:=p6.facts) p6.facts_ok (anns:=[]) (plainAnns_ok _ (by kernel_rfl)) (nats:=natl7) natl7_ok (n:=3000) (by kernel_rfl)
def natl8:List Nat1:=specNat (spRate)::natl7
theorem natl8_ok:∀ x∈natl8,NatOk Try.prog x:=by
 intro x hx
 rcases List.mem_cons.1 hx with rfl | hx
 ·exact spec6_0
 exact natl7_ok x hx

def F126:E:=(.fn 114 (.pr J0 (.int 0)))
theorem G126:Tr F126:=fun ρ=>by
 unfold F126
 have:=@t114_zero ρ J0 (.int 0)
 try simp only [smA,smW] at *
 grind
def F127:E:=(.imp (.and J94 (.and J95 J64)) J98)
theorem G127:Tr F127:=ii3 fun ρ p0 p1 p2=>by
 have:=fun e=>@t114_at ρ J0 J61 (.fn 0 J0) e
 try simp only [smA,smW] at *
 grind
def F128:E:=(.imp (.and J94 (.and J99 J64)) J98)
theorem G128:Tr F128:=ii3 fun ρ p0 p1 p2=>by
 have:=fun e=>@t114_at ρ J0 J61 (.fn 0 J0) e
 try simp only [smA,smW] at *
 grind
def F129:E:=(.imp (.and J94 (.and (.not J95) (.and (.not J99) (.and J64 (.and (.fn 114 (.pr J0 J61)) J101))))) (.fn 114 (.pr J0 J102)))
theorem G129:Tr F129:=ii6 fun ρ p0 p1 p2 p3 p4 p5=>by
 have:=@wrap_add ρ J61 (.int 1)
 have:=@t114_step ρ J0 J61 J102
 try simp only [smA,smW] at *
 grind
def F130:E:=(.imp (.and (.not J94) (.and J104 (.fn 114 (.pr J0 J61)))) J97)
theorem G130:Tr F130:=ii3 fun ρ p0 p1 p2=>by
 have:=@t114_congr ρ J0 J61 (.fn 0 J0)
 try simp only [smA,smW] at *
 grind
def F131:E:=(.imp J106 (.not (.cmp .lss J102 (.int 0))))
theorem G131:Tr F131:=ii3 fun ρ p0 p1 p2=>by
 try simp only [smA,smW] at *
 obtain ⟨a3,ea3,qa3⟩:=cs_i64 ((E.I ρ J61) + (1))
 try simp only [ea3] at *
 grind
def F132:E:=(.imp J108 (.not (.cmp .lss (.fn 0 J0) J102)))
theorem G132:Tr F132:=ii4 fun ρ p0 p1 p2 p3=>by
 try simp only [smA,smW] at *
 obtain ⟨a3,ea3,qa3⟩:=cs_i64 ((E.I ρ J61) + (1))
 try simp only [ea3] at *
 grind
def F133:E:=(.imp J106 (.cmp .lss (.fn 7 (.pr (.fn 0 J0) J102)) (.fn 7 (.pr (.fn 0 J0) J61))))
theorem G133:Tr F133:=ii3 fun ρ p0 p1 p2=>by
 try simp only [smA,smW] at *
 obtain ⟨a3,ea3,qa3⟩:=cs_i64 ((E.I ρ J61) + (1))
 try simp only [ea3] at *
 grind
def F134:E:=(.imp J108 (.not (.cmp .lss (.fn 7 (.pr (.fn 0 J0) J102)) (.int 0))))
theorem G134:Tr F134:=ii4 fun ρ p0 p1 p2 p3=>by
 try simp only [smA,smW] at *
 obtain ⟨a3,ea3,qa3⟩:=cs_i64 ((E.I ρ J61) + (1))
 try simp only [ea3] at *
 grind
namespace p7
def facts:List E:=[F126,F127,F128,F129,F130,F131,F132,F133,F134]
theorem facts_ok:∀ e∈facts,Tr e:=(ac G126 (ac G127 (ac G128 (ac G129 (ac G130 (ac G131 (ac G132 (ac G133 (ac G134 all_nil)))))))))
end p7
theorem spec7_0:NatOk Try.prog (specNat (spCF)) :=
 spec_of_check good (facts:=p7.facts) p7.facts_ok (anns:=annCF) (plainAnns_ok _ (by kernel_rfl)) (nats:=natl8) natl8_ok (n:=3000) (by kernel_rfl)
def natl9:List Nat1:=specNat (spCF)::natl8
theorem natl9_ok:∀ x∈natl9,NatOk Try.prog x:=by
 intro x hx
 rcases List.mem_cons.1 hx with rfl | hx
 ·exact spec7_0
 exact natl8_ok x hx

def F135:E:=(.cmp .eql (.fn 110 (.pr J0 (.pr J61 (.pr J1 (.int 0))))) (.int 0))
theorem G135:Tr F135:=fun ρ=>by
 unfold F135
 have:=@t110_zero ρ J0 J61 J1 (.int 0)
 try simp only [smA,smW] at *
 grind
def F136:E:=(.imp (.not J110) J113)
theorem G136:Tr F136:=ii1 fun ρ p0=>by
 try simp only [smA,smW] at *
 grind
def F137:E:=(.imp (.not J111) J113)
theorem G137:Tr F137:=ii1 fun ρ p0=>by
 try simp only [smA,smW] at *
 grind
def F138:E:=(.cmp .eql (.fn 111 (.pr J0 (.pr J61 (.pr J1 (.int 0))))) (.int (-1)))
theorem G138:Tr F138:=fun ρ=>by
 unfold F138
 have:=@t110_zero ρ J0 J61 J1 (.int 0)
 try simp only [smA,smW] at *
 grind
def F139:E:=(.cmp .eql (.fn 107 (.pr J0 (.pr J61 (.pr J8 (.int 0))))) (.int 0))
theorem G139:Tr F139:=fun ρ=>by
 unfold F139
 have:=@t107_zero ρ J0 J61 J8 (.int 0)
 try simp only [smA,smW] at *
 grind
def F140:E:=(.imp (.and (.not J114) (.and J116 J117)) (.cmp .eql (.var 6) (.fn 110 (.pr J0 (.pr J61 (.pr J1 J1))))))
theorem G140:Tr F140:=ii3 fun ρ p0 p1 p2=>by
 have:=@t110_congr ρ J0 J61 J1 J8 J1
 try simp only [smA,smW] at *
 grind
def F141:E:=(.not (.cmp .lss (.fn 8 (.pr (.int 0) (.int 1000000))) (.int 0)))
theorem G141:Tr F141:=fun ρ=>by
 unfold F141
 try simp only [smA,smW] at *
 grind
def F142:E:=(.imp (.and (.not J114) (.and J116 J119)) (.cmp .eql J118 (.fn 111 (.pr J0 (.pr J61 (.pr J1 J1))))))
theorem G142:Tr F142:=ii3 fun ρ p0 p1 p2=>by
 have:=@t110_congr ρ J0 J61 J1 J8 J1
 try simp only [smA,smW] at *
 grind
def F143:E:=(.imp (.and J121 (.and J123 J111)) (.cmp .lss J120 J1))
theorem G143:Tr F143:=ii3 fun ρ p0 p1 p2=>by
 try simp only [smA,smW] at *
 grind
def F144:E:=(.imp J135 (.cmp .eql J8 (.fn 110 (.pr J0 (.pr J61 (.pr J1 J28))))))
theorem G144:Tr F144:=ii9 fun ρ p0 p1 p2 p3 p4 p5 p6 p7 p8=>by
 have:=@wrap_add ρ J8 (.int 1)
 have:=@t110_step ρ J0 J61 J1 J8 J28
 have:=@t107_congr ρ J0 J61 J8 J120 J1
 try simp only [smA,smW] at *
 grind
def F145:E:=(.imp (.and (.not J121) (.and (.not J125) (.and J123 (.and J126 (.and J114 (.and J11 (.and J119 (.and J117 J129)))))))) (.cmp .eql (.var 6) (.fn 110 (.pr J0 (.pr J61 (.pr J1 J28))))))
theorem G145:Tr F145:=ii10 fun ρ p0 p1 p2 p3 p4 p5 p6 p7 p8 p9=>by
 have:=@wrap_add ρ J8 (.int 1)
 have:=@t110_step ρ J0 J61 J1 J8 J28
 have:=@t107_congr ρ J0 J61 J8 J120 J1
 try simp only [smA,smW] at *
 grind
def F146:E:=(.imp (.and J121 (.and J138 (.and J140 (.and (.cmp .eql J136 (.fn 105 (.pr J0 (.pr J8 J120)))) (.and J142 (.and J144 (.and J146 (.and J126 J147)))))))) (.cmp .eql J148 (.fn 107 (.pr J0 (.pr J61 (.pr J8 J149))))))
theorem G146:Tr F146:=ii10 fun ρ p0 p1 p2 p3 p4 p5 p6 p7 p8 p9=>by
 have:=@wrap_add ρ J120 (.int 1)
 have:=fun e=>@t114_at ρ J61 J120 (.fn 0 J61) e
 have:=@t107_step ρ J0 J61 J8 J120 J149
 have:=@prod_le (E.I ρ (.fn 1 (.pr J61 J120))) (E.I ρ J136)
 try simp only [smA,smW] at *
 obtain ⟨a16,ea16,qa16⟩:=cs_i64 ((E.I ρ (.fn 1 (.pr J61 J120))) * (E.I ρ J136))
 try simp only [ea16] at *
 obtain ⟨a17,ea17,qa17⟩:=cs_i64 ((E.I ρ J124) + a16)
 try simp only [ea17] at *
 grind
def F147:E:=(.imp J135 (.cmp .eql J124 (.fn 111 (.pr J0 (.pr J61 (.pr J1 J28))))))
theorem G147:Tr F147:=ii9 fun ρ p0 p1 p2 p3 p4 p5 p6 p7 p8=>by
 have:=@wrap_add ρ J8 (.int 1)
 have:=@t110_step ρ J0 J61 J1 J8 J28
 have:=@t107_congr ρ J0 J61 J8 J120 J1
 try simp only [smA,smW] at *
 grind
def F148:E:=(.imp (.and (.not J121) (.and (.not J125) J133)) (.cmp .eql J118 (.fn 111 (.pr J0 (.pr J61 (.pr J1 J28))))))
theorem G148:Tr F148:=ii9 fun ρ p0 p1 p2 p3 p4 p5 p6 p7 p8=>by
 have:=@wrap_add ρ J8 (.int 1)
 have:=@t110_step ρ J0 J61 J1 J8 J28
 have:=@t107_congr ρ J0 J61 J8 J120 J1
 try simp only [smA,smW] at *
 grind
def F149:E:=(.imp J155 (.not (.cmp .lss J148 (.int 0))))
theorem G149:Tr F149:=ii8 fun ρ p0 p1 p2 p3 p4 p5 p6 p7=>by
 have:=fun e=>@t114_at ρ J61 J120 (.fn 0 J61) e
 have:=@prod_le (E.I ρ (.fn 1 (.pr J61 J120))) (E.I ρ J136)
 try simp only [smA,smW] at *
 obtain ⟨a15,ea15,qa15⟩:=cs_i64 ((E.I ρ (.fn 1 (.pr J61 J120))) * (E.I ρ J136))
 try simp only [ea15] at *
 obtain ⟨a16,ea16,qa16⟩:=cs_i64 ((E.I ρ J124) + a15)
 try simp only [ea16] at *
 grind
def F150:E:=(.imp (.and (.not J121) (.and J123 (.and J144 J128))) (.not (.cmp .lss (.int 20000000) J124)))
theorem G150:Tr F150:=ii4 fun ρ p0 p1 p2 p3=>by
 try simp only [smA,smW] at *
 grind
def F151:E:=(.imp (.and J114 (.and J11 (.and (.not (.cmp .lss J8 (.var 6))) J129))) (.not (.cmp .lss J28 (.var 6))))
theorem G151:Tr F151:=ii5 fun ρ p0 p1 p2 p3 p4=>by
 try simp only [smA,smW] at *
 obtain ⟨a12,ea12,qa12⟩:=cs_i64 ((E.I ρ J8) + (1))
 try simp only [ea12] at *
 grind
def F152:E:=(.imp J155 (.not (.cmp .lss (.fn 8 (.pr J149 (.int 1000000))) J148)))
theorem G152:Tr F152:=ii8 fun ρ p0 p1 p2 p3 p4 p5 p6 p7=>by
 have:=fun e=>@t114_at ρ J61 J120 (.fn 0 J61) e
 have:=@prod_le (E.I ρ (.fn 1 (.pr J61 J120))) (E.I ρ J136)
 try simp only [smA,smW] at *
 obtain ⟨a15,ea15,qa15⟩:=cs_i64 ((E.I ρ J120) + (1))
 try simp only [ea15] at *
 obtain ⟨a16,ea16,qa16⟩:=cs_i64 ((E.I ρ (.fn 1 (.pr J61 J120))) * (E.I ρ J136))
 try simp only [ea16] at *
 obtain ⟨a17,ea17,qa17⟩:=cs_i64 ((E.I ρ J124) + a16)
 try simp only [ea17] at *
 grind
def F153:E:=(.imp J157 (.not (.cmp .lss J28 J8)))
theorem G153:Tr F153:=ii4 fun ρ p0 p1 p2 p3=>by
 try simp only [smA,smW] at *
 obtain ⟨a12,ea12,qa12⟩:=cs_i64 ((E.I ρ J8) + (1))
 try simp only [ea12] at *
 grind
def F154:E:=(.imp J157 J49)
theorem G154:Tr F154:=ii4 fun ρ p0 p1 p2 p3=>by
 try simp only [smA,smW] at *
 obtain ⟨a12,ea12,qa12⟩:=cs_i64 ((E.I ρ J8) + (1))
 try simp only [ea12] at *
 grind
def F155:E:=(.imp J159 (.not (.cmp .lss J149 (.int 0))))
theorem G155:Tr F155:=ii3 fun ρ p0 p1 p2=>by
 try simp only [smA,smW] at *
 obtain ⟨a14,ea14,qa14⟩:=cs_i64 ((E.I ρ J120) + (1))
 try simp only [ea14] at *
 grind
def F156:E:=(.imp J161 (.not (.cmp .lss J1 J28)))
theorem G156:Tr F156:=ii5 fun ρ p0 p1 p2 p3 p4=>by
 try simp only [smA,smW] at *
 obtain ⟨a12,ea12,qa12⟩:=cs_i64 ((E.I ρ J8) + (1))
 try simp only [ea12] at *
 grind
def F157:E:=(.imp J163 (.not (.cmp .lss (.fn 0 J61) J149)))
theorem G157:Tr F157:=ii4 fun ρ p0 p1 p2 p3=>by
 try simp only [smA,smW] at *
 obtain ⟨a14,ea14,qa14⟩:=cs_i64 ((E.I ρ J120) + (1))
 try simp only [ea14] at *
 grind
def F158:E:=(.imp J157 (.cmp .lss (.fn 7 (.pr J1 J28)) (.fn 7 (.pr J1 J8))))
theorem G158:Tr F158:=ii4 fun ρ p0 p1 p2 p3=>by
 try simp only [smA,smW] at *
 obtain ⟨a12,ea12,qa12⟩:=cs_i64 ((E.I ρ J8) + (1))
 try simp only [ea12] at *
 grind
def F159:E:=(.imp J159 (.cmp .lss (.fn 7 (.pr (.fn 0 J61) J149)) (.fn 7 (.pr (.fn 0 J61) J120))))
theorem G159:Tr F159:=ii3 fun ρ p0 p1 p2=>by
 try simp only [smA,smW] at *
 obtain ⟨a14,ea14,qa14⟩:=cs_i64 ((E.I ρ J120) + (1))
 try simp only [ea14] at *
 grind
def F160:E:=(.imp J161 (.not (.cmp .lss (.fn 7 (.pr J1 J28)) (.int 0))))
theorem G160:Tr F160:=ii5 fun ρ p0 p1 p2 p3 p4=>by
 try simp only [smA,smW] at *
 obtain ⟨a12,ea12,qa12⟩:=cs_i64 ((E.I ρ J8) + (1))
 try simp only [ea12] at *
 grind
def F161:E:=(.imp J163 (.not (.cmp .lss (.fn 7 (.pr (.fn 0 J61) J149)) (.int 0))))
theorem G161:Tr F161:=ii4 fun ρ p0 p1 p2 p3=>by
 try simp only [smA,smW] at *
 obtain ⟨a14,ea14,qa14⟩:=cs_i64 ((E.I ρ J120) + (1))
 try simp only [ea14] at *
 grind
namespace p8
def facts:List E:=[F135,F136,F137,F138,F139,F140,F141,F142,F143,F144,F145,F146,F147,F148,F149,F150,F151,F152,F153,F154,F155,F156,F157,F158,F159,F160,F161]
theorem facts_ok:∀ e∈facts,Tr e:=(ac G135 (ac G136 (ac G137 (ac G138 (ac G139 (ac G140 (ac G141 (ac G142 (ac G143 (ac G144 (ac G145 (ac G146 (ac G147 (ac G148 (ac G149 (ac G150 (ac G151 (ac G152 (ac G153 (ac G154 (ac G155 (ac G156 (ac G157 (ac G158 (ac G159 (ac G160 (ac G161 all_nil)))))))))))))))))))))))))))
end p8
theorem spec8_0:NatOk Try.prog (specNat (spBest)) :=
 spec_of_check good (facts:=p8.facts) p8.facts_ok (anns:=annBest) (plainAnns_ok _ (by kernel_rfl)) (nats:=natl9) natl9_ok (n:=3000) (by kernel_rfl)
def natl10:List Nat1:=specNat (spBest)::natl9
theorem natl10_ok:∀ x∈natl10,NatOk Try.prog x:=by
 intro x hx
 rcases List.mem_cons.1 hx with rfl | hx
 ·exact spec8_0
 exact natl9_ok x hx

def F162:E:=(.imp J113 (.imp J112 (.iff J164 J169)))
theorem G162:Tr F162:=ii1 fun ρ p0=>by
 try simp only [smA,smW] at *
 grind
def F163:E:=(.imp J113 J172)
theorem G163:Tr F163:=ii1 fun ρ p0=>by
 try simp only [smA,smW] at *
 grind
def F164:E:=(.imp (.and J173 (.and J174 (.and (.cmp .eql J118 J3) (.cmp .eql (.var 8) J8)))) (.imp J112 (.iff J167 J169)))
theorem G164:Tr F164:=ii4 fun ρ p0 p1 p2 p3=>by
 try simp only [smA,smW] at *
 grind
def F165:E:=(.imp (.and J173 (.not (.cmp .eql (.var 8) J8))) J172)
theorem G165:Tr F165:=ii2 fun ρ p0 p1=>by
 try simp only [smA,smW] at *
 grind
def F166:E:=(.imp (.and J174 (.not (.cmp .eql J118 J3))) J172)
theorem G166:Tr F166:=ii2 fun ρ p0 p1=>by
 try simp only [smA,smW] at *
 grind
def F167:E:=(.imp (.and J175 J176) (.imp J113 (.iff J164 J178)))
theorem G167:Tr F167:=ii2 fun ρ p0 p1=>by
 try simp only [smA,smW] at *
 grind
def F168:E:=(.imp (.not J176) J180)
theorem G168:Tr F168:=ii1 fun ρ p0=>by
 try simp only [smA,smW] at *
 grind
def F169:E:=(.imp (.not J175) J180)
theorem G169:Tr F169:=ii1 fun ρ p0=>by
 try simp only [smA,smW] at *
 grind
def F170:E:=(.imp J181 (.imp J113 (.iff J167 J178)))
theorem G170:Tr F170:=ii2 fun ρ p0 p1=>by
 try simp only [smA,smW] at *
 grind
def F171:E:=(.imp J181 J180)
theorem G171:Tr F171:=ii2 fun ρ p0 p1=>by
 try simp only [smA,smW] at *
 grind
namespace p9
def facts:List E:=[F162,F163,F164,F165,F166,F167,F168,F169,F170,F171]
theorem facts_ok:∀ e∈facts,Tr e:=(ac G162 (ac G163 (ac G164 (ac G165 (ac G166 (ac G167 (ac G168 (ac G169 (ac G170 (ac G171 all_nil))))))))))
end p9
theorem spec9_0:NatOk Try.prog (specNat (spBests)) :=
 spec_of_check good (facts:=p9.facts) p9.facts_ok (anns:=[]) (plainAnns_ok _ (by kernel_rfl)) (nats:=natl10) natl10_ok (n:=3000) (by kernel_rfl)
def natl11:List Nat1:=specNat (spBests)::natl10
theorem natl11_ok:∀ x∈natl11,NatOk Try.prog x:=by
 intro x hx
 rcases List.mem_cons.1 hx with rfl | hx
 ·exact spec9_0
 exact natl10_ok x hx

end
end Go.Proofs.Ytmngplmblanhdaa.metaBests
