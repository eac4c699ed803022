/-
  ViewHidden: contracts of functions, part 3.
-/
import Derived.Test.YtoicbojdnjcmiaaRows
import Derived.Test.YtoicbojdnjcmiaaNat
import Derived.WalkKit
import Derived.ProofKit
import Derived.OpenShut
import Derived.ChangeOld
import Derived.Below
import Derived.KernelRfl
import Derived.Lib.SmallJoins
import Derived.Test.YtoicbojdnjcmiaaViewHiddenPartb
namespace Go.Proofs.Ytoicbojdnjcmiaa.viewHidden
open Go.ChangeShapes Go.WideShapes Go.ChangeAt Go.RowKit
open Go.SX
set_option linter.unusedVariables false
set_option linter.unusedSimpArgs false
set_option maxRecDepth 100000
noncomputable section
abbrev X0:E:=.var 4
abbrev X1:E:=.cmp .lss (.int 4) (.fn 9 (.pr X0 (.int 2)))
abbrev X2:E:=.var 0
abbrev X3:E:=.var 1
abbrev X4:E:=.var 2
abbrev X5:E:=.var 3
abbrev X6:E:=.var 5
abbrev X7:E:=.pr X3 (.pr X4 (.pr X5 (.pr X0 X6)))
abbrev X8:E:=.pr X2 X7
abbrev X9:E:=.fn 102 X8
abbrev X10:E:=.iff (.bool false) X9
abbrev X11:E:=.cmp .lss (.int 0) (.fn 9 (.pr X0 (.int 2)))
abbrev X12:E:=.cmp .lss X5 (.int 0)
abbrev X13:E:=.not X12
abbrev X14:E:=.imp X13 (.cmp .eql (.fn 9 (.pr X0 (.int 2))) (.int 0))
abbrev X15:E:=.not X1
abbrev X16:E:=.cmp .lss (.int 1) X5
abbrev X17:E:=.not X16
abbrev X18:E:=.cmp .lss (.int 399) X4
abbrev X19:E:=.not X18
abbrev X20:E:=.cmp .lss X4 (.int 0)
abbrev X21:E:=.not X20
abbrev X22:E:=.cmp .lss (.int 500) X3
abbrev X23:E:=.not X22
abbrev X24:E:=.cmp .lss X3 (.int 1)
abbrev X25:E:=.not X24
abbrev X26:E:=.cmp .lss (.int 1) X2
abbrev X27:E:=.not X26
abbrev X28:E:=.cmp .lss X2 (.int 0)
abbrev X29:E:=.not X28
abbrev X30:E:=.and X27 X29
abbrev X31:E:=.and X25 X30
abbrev X32:E:=.and X23 X31
abbrev X33:E:=.and X21 X32
abbrev X34:E:=.and X19 X33
abbrev X35:E:=.cmp .lss X5 (.int (-1))
abbrev X36:E:=.not X35
abbrev X37:E:=.imp X6 X13
abbrev X38:E:=.var 8
abbrev X39:E:=.cmp .lss X38 (.fn 9 (.pr X0 (.int 2)))
abbrev X40:E:=.cmp .lss (.fn 1 (.pr X0 (.fn 6 (.pr (.fn 8 (.pr X38 (.int 2))) (.int 0))))) (.int 0)
abbrev X41:E:=.not X40
abbrev X42:E:=.cmp .lss (.fn 1 (.pr X0 (.fn 6 (.pr (.fn 8 (.pr X38 (.int 2))) (.int 1))))) (.int 0)
abbrev X43:E:=.cmp .lss (.int 1) (.fn 1 (.pr X0 (.fn 6 (.pr (.fn 8 (.pr X38 (.int 2))) (.int 1)))))
abbrev X44:E:=.cmp .lss (.int 0) (.fn 1 (.pr X0 (.fn 6 (.pr (.fn 8 (.pr X38 (.int 2))) (.int 0)))))
abbrev X45:E:=.cmp .eql (.fn 1 (.pr X0 (.fn 6 (.pr (.fn 8 (.pr X38 (.int 2))) (.int 1))))) (.int 0)
abbrev X46:E:=.cmp .lss (.int 500) (.fn 1 (.pr X0 (.fn 6 (.pr (.fn 8 (.pr X38 (.int 2))) (.int 0)))))
abbrev X47:E:=.not (.cmp .lss X38 (.int 0))
abbrev X48:E:=.and X36 X34
abbrev X49:E:=.and X17 X48
abbrev X50:E:=.and X15 X49
abbrev X51:E:=.fn 101 (.pr X0 X38)
abbrev X52:E:=.and X47 X15
abbrev X53:E:=.ar .add .i64 X38 (.int 1)
abbrev X54:E:=.cmp .lss X53 (.int 0)
abbrev X55:E:=.not X54
abbrev X56:E:=.cmp .lss (.fn 9 (.pr X0 (.int 2))) X38
abbrev X57:E:=.not X56
abbrev X58:E:=.and X57 X52
abbrev X59:E:=.and X39 X58
abbrev X60:E:=.and X51 X52
abbrev X61:E:=.and (.not X46) X60
abbrev X62:E:=.cmp .lss X38 (.fn 0 X2)
abbrev X63:E:=.cmp .lss (.int 1000) (.fn 0 X2)
abbrev X64:E:=.not X63
abbrev X65:E:=.and X47 X64
abbrev X66:E:=.and X62 X65
abbrev X67:E:=.var 9
abbrev X68:E:=.cmp .eql X67 (.fn 131 (.pr X2 (.pr X3 X38)))
abbrev X69:E:=.cmp .lss X38 X67
abbrev X70:E:=.not X69
abbrev X71:E:=.cmp .eql (.fn 1 (.pr X2 X38)) X3
abbrev X72:E:=.cmp .lss X67 (.int 0)
abbrev X73:E:=.not X72
abbrev X74:E:=.and X68 X65
abbrev X75:E:=.and X73 X74
abbrev X76:E:=.and X70 X75
abbrev X77:E:=.ar .add .i64 X67 (.int 1)
abbrev X78:E:=.and X62 X76
abbrev X79:E:=.cmp .lss X38 (.fn 9 (.pr (.fn 1 (.pr X2 (.int 0))) (.int 12)))
abbrev X80:E:=.cmp .eql (.fn 1 (.pr (.fn 1 (.pr X2 (.int 0))) (.fn 6 (.pr (.fn 8 (.pr X38 (.int 12))) (.int 0))))) X3
abbrev X81:E:=.cmp .eql (.fn 120 (.pr X2 (.pr X3 X38))) (.int (-1))
abbrev X82:E:=.fn 117 X2
abbrev X83:E:=.and X79 X47
abbrev X84:E:=.cmp .lss (.fn 0 (.fn 1 (.pr X2 (.int 6)))) X5
abbrev X85:E:=.not X84
abbrev X86:E:=.cmp .eql X5 (.fn 121 (.pr (.fn 1 (.pr X2 (.int 6))) X4))
abbrev X87:E:=.cmp .lss (.fn 0 (.fn 1 (.pr X2 (.int 7)))) X0
abbrev X88:E:=.not X87
abbrev X89:E:=.cmp .lss X0 (.int 0)
abbrev X90:E:=.not X89
abbrev X91:E:=.cmp .eql X0 (.fn 121 (.pr (.fn 1 (.pr X2 (.int 7))) X4))
abbrev X92:E:=.cmp .lss (.fn 0 (.fn 1 (.pr X2 (.int 8)))) X6
abbrev X93:E:=.not X92
abbrev X94:E:=.not (.cmp .lss X6 (.int 0))
abbrev X95:E:=.cmp .eql X6 (.fn 121 (.pr (.fn 1 (.pr X2 (.int 8))) X4))
abbrev X96:E:=.var 6
abbrev X97:E:=.cmp .lss (.fn 0 (.fn 1 (.pr X2 (.int 9)))) X96
abbrev X98:E:=.not X97
abbrev X99:E:=.not (.cmp .lss X96 (.int 0))
abbrev X100:E:=.cmp .eql X96 (.fn 121 (.pr (.fn 1 (.pr X2 (.int 9))) X4))
abbrev X101:E:=.and X100 X82
abbrev X102:E:=.and X99 X101
abbrev X103:E:=.and X98 X102
abbrev X104:E:=.and X95 X103
abbrev X105:E:=.and X94 X104
abbrev X106:E:=.and X93 X105
abbrev X107:E:=.and X91 X106
abbrev X108:E:=.and X90 X107
abbrev X109:E:=.and X88 X108
abbrev X110:E:=.and X86 X109
abbrev X111:E:=.and X13 X110
abbrev X112:E:=.and X85 X111
abbrev X113:E:=.ar .add .i64 (.ar .add .i64 (.ar .add .i64 (.ar .add .i64 (.int 0) X5) X0) X6) X96
abbrev X114:E:=.cmp .eql X113 (.fn 6 (.pr (.fn 132 (.pr X2 (.pr X3 (.pr (.int 4) X4)))) (.fn 133 (.pr X2 (.pr X3 (.pr X4 (.int 0)))))))
abbrev X115:E:=.cmp .lss (.fn 0 (.fn 1 (.pr X2 (.int 20)))) X5
abbrev X116:E:=.not X115
abbrev X117:E:=.cmp .eql X5 (.fn 121 (.pr (.fn 1 (.pr X2 (.int 20))) X4))
abbrev X118:E:=.cmp .lss (.fn 0 (.fn 1 (.pr X2 (.int 21)))) X0
abbrev X119:E:=.not X118
abbrev X120:E:=.cmp .eql X0 (.fn 121 (.pr (.fn 1 (.pr X2 (.int 21))) X4))
abbrev X121:E:=.cmp .lss (.fn 0 (.fn 1 (.pr X2 (.int 22)))) X6
abbrev X122:E:=.not X121
abbrev X123:E:=.cmp .eql X6 (.fn 121 (.pr (.fn 1 (.pr X2 (.int 22))) X4))
abbrev X124:E:=.cmp .lss (.fn 0 (.fn 1 (.pr X2 (.int 23)))) X96
abbrev X125:E:=.not X124
abbrev X126:E:=.cmp .eql X96 (.fn 121 (.pr (.fn 1 (.pr X2 (.int 23))) X4))
abbrev X127:E:=.cmp .lss X3 (.int 0)
abbrev X128:E:=.not X127
abbrev X129:E:=.and X125 (.and X99 (.and X126 X82))
abbrev X130:E:=.and X123 X129
abbrev X131:E:=.and X94 X130
abbrev X132:E:=.and X122 X131
abbrev X133:E:=.and X120 X132
abbrev X134:E:=.and X90 X133
abbrev X135:E:=.and X119 X134
abbrev X136:E:=.and X117 X135
abbrev X137:E:=.and X13 X136
abbrev X138:E:=.and X116 X137
abbrev X139:E:=.var 16
abbrev X140:E:=.cmp .lss X139 (.fn 9 (.pr (.fn 1 (.pr X2 (.int 29))) (.int 5)))
abbrev X141:E:=.cmp .lss X139 (.int 0)
abbrev X142:E:=.not X141
abbrev X143:E:=.and X82 (.and X140 X142)
abbrev X144:E:=.ar .add .i64 X139 (.int 1)
abbrev X145:E:=.var 17
abbrev X146:E:=.cmp .eql X145 (.fn 6 (.pr (.fn 132 (.pr X2 (.pr X3 (.pr (.int 4) X4)))) (.fn 133 (.pr X2 (.pr X3 (.pr X4 X139))))))
abbrev X147:E:=.cmp .lss (.fn 9 (.pr (.fn 1 (.pr X2 (.int 29))) (.int 5))) X139
abbrev X148:E:=.not X147
abbrev X149:E:=.cmp .lss (.fn 6 (.pr (.int 800) X139)) X145
abbrev X150:E:=.not X149
abbrev X151:E:=.and X148 X82
abbrev X152:E:=.cmp .eql (.fn 1 (.pr (.fn 1 (.pr X2 (.int 29))) (.fn 6 (.pr (.fn 8 (.pr X139 (.int 5))) (.int 3))))) (.int (-1))
abbrev X153:E:=.cmp .eql (.fn 1 (.pr (.fn 1 (.pr X2 (.int 29))) (.fn 6 (.pr (.fn 8 (.pr X139 (.int 5))) (.int 1))))) X4
abbrev X154:E:=.cmp .eql (.fn 1 (.pr (.fn 1 (.pr X2 (.int 29))) (.fn 6 (.pr (.fn 8 (.pr X139 (.int 5))) (.int 0))))) X3
abbrev X155:E:=.cmp .lss X145 (.int 0)
abbrev X156:E:=.not X155
abbrev X157:E:=.and X146 (.and X142 X82)
abbrev X158:E:=.and X156 X157
abbrev X159:E:=.and X150 X158
abbrev X160:E:=.ar .add .i64 X145 (.int 1)
abbrev X161:E:=.cmp .eql X145 (.fn 6 (.pr (.fn 132 (.pr X2 (.pr X3 (.pr (.int 4) X4)))) (.fn 133 (.pr X2 (.pr X3 (.pr X4 X144))))))
abbrev X162:E:=.and X140 X159
abbrev X163:E:=.not (.cmp .lss X2 (.int 1))
abbrev X164:E:=.not (.cmp .lss X3 (.int (-1)))
abbrev X165:E:=.var 7
abbrev X166:E:=.pr X0 (.pr X6 (.pr X96 (.pr X165 X38)))
abbrev X167:E:=.pr X5 X166
abbrev X168:E:=.pr X4 X167
abbrev X169:E:=.pr X3 X168
abbrev X170:E:=.pr X2 X169
abbrev X171:E:=.fn 137 X170
abbrev X172:E:=.iff (.bool false) X171
abbrev X173:E:=.not (.cmp .lss (.int 1) X4)
abbrev X174:E:=.cmp .eql X5 (.int 0)
abbrev X175:E:=.cmp .eql X0 (.int 0)
abbrev X176:E:=.cmp .lss (.int 500) X2
abbrev X177:E:=.not X176
abbrev X178:E:=.cmp .lss (.int 399) X3
abbrev X179:E:=.not X178
abbrev X180:E:=.and X177 X179
abbrev X181:E:=.cmp .lss X165 (.int 0)
abbrev X182:E:=.not X181
abbrev X183:E:=.cmp .lss (.int 99) X6
abbrev X184:E:=.cmp .lss (.int 99) X96
abbrev X185:E:=.cmp .lss (.int 99) X165
abbrev X186:E:=.and (.not X184) (.not X185)
abbrev X187:E:=.and (.not X183) X186
abbrev X188:E:=.iff (.not (.cmp .lss (.int 99) X38)) X171
abbrev X189:E:=.ar .add .i64 (.ar .add .i64 (.ar .add .i64 (.ar .add .i64 (.ar .add .i64 (.ar .add .i64 (.ar .add .i64 (.ar .add .i64 (.int 0) (.fn 0 (.fn 1 (.pr X2 (.int 6))))) (.fn 0 (.fn 1 (.pr X2 (.int 7))))) (.fn 0 (.fn 1 (.pr X2 (.int 8))))) (.fn 0 (.fn 1 (.pr X2 (.int 9))))) (.fn 0 (.fn 1 (.pr X2 (.int 20))))) (.fn 0 (.fn 1 (.pr X2 (.int 21))))) (.fn 0 (.fn 1 (.pr X2 (.int 22))))) (.fn 0 (.fn 1 (.pr X2 (.int 23))))
abbrev X190:E:=.cmp .lss (.fn 1 (.pr (.fn 1 (.pr X2 (.int 29))) (.fn 6 (.pr (.fn 8 (.pr X139 (.int 5))) (.int 3))))) (.int 0)
abbrev X191:E:=.var 18
abbrev X192:E:=.cmp .eql X191 (.fn 120 (.pr X2 (.pr (.fn 1 (.pr (.fn 1 (.pr X2 (.int 29))) (.fn 6 (.pr (.fn 8 (.pr X139 (.int 5))) (.int 1))))) (.fn 9 (.pr (.fn 1 (.pr X2 (.int 0))) (.int 12))))))
abbrev X193:E:=.cmp .eql (.fn 1 (.pr (.fn 1 (.pr X2 (.int 0))) (.fn 6 (.pr (.fn 8 (.pr X191 (.int 12))) (.int 1))))) (.fn 1 (.pr (.fn 1 (.pr X2 (.int 29))) (.fn 6 (.pr (.fn 8 (.pr X139 (.int 5))) (.int 2)))))
abbrev X194:E:=.fn 123 (.pr X2 X139)
abbrev X195:E:=.and X194 X142
abbrev X196:E:=.iff (.bool false) (.fn 125 X2)
abbrev X197:E:=.cmp .eql X145 (.fn 6 (.pr (.fn 134 (.pr X2 (.int 8))) (.fn 135 (.pr X2 X139))))
abbrev X198:E:=.fn 123 (.pr X2 (.fn 9 (.pr (.fn 1 (.pr X2 (.int 29))) (.int 5))))
abbrev X199:E:=.and X197 X142
abbrev X200:E:=.cmp .lss (.fn 6 (.pr (.int 1600) X139)) X145
abbrev X201:E:=.not X200
abbrev X202:E:=.and X156 X199
abbrev X203:E:=.and X201 X202
abbrev X204:E:=.and X82 X203
abbrev X205:E:=.and X140 X204
abbrev X206:E:=.var 24
abbrev X207:E:=.cmp .lss X206 (.fn 9 (.pr (.fn 1 (.pr X2 (.int 0))) (.int 12)))
abbrev X208:E:=.cmp .lss (.int 0) X206
abbrev X209:E:=.and X207 X208
abbrev X210:E:=.ar .sub .i64 X206 (.int 1)
abbrev X211:E:=.var 26
abbrev X212:E:=.iff X211 (.fn 137 (.pr (.fn 1 (.pr (.fn 1 (.pr X2 (.int 0))) (.fn 6 (.pr (.fn 8 (.pr X206 (.int 12))) (.int 0))))) (.pr (.fn 1 (.pr (.fn 1 (.pr X2 (.int 0))) (.fn 6 (.pr (.fn 8 (.pr X206 (.int 12))) (.int 1))))) (.pr (.fn 1 (.pr (.fn 1 (.pr X2 (.int 0))) (.fn 6 (.pr (.fn 8 (.pr X206 (.int 12))) (.int 2))))) (.pr (.fn 1 (.pr (.fn 1 (.pr X2 (.int 0))) (.fn 6 (.pr (.fn 8 (.pr X206 (.int 12))) (.int 3))))) (.pr (.fn 1 (.pr (.fn 1 (.pr X2 (.int 0))) (.fn 6 (.pr (.fn 8 (.pr X206 (.int 12))) (.int 4))))) (.pr (.fn 1 (.pr (.fn 1 (.pr X2 (.int 0))) (.fn 6 (.pr (.fn 8 (.pr X206 (.int 12))) (.int 5))))) (.pr (.fn 1 (.pr (.fn 1 (.pr X2 (.int 0))) (.fn 6 (.pr (.fn 8 (.pr X206 (.int 12))) (.int 6))))) (.pr (.fn 1 (.pr (.fn 1 (.pr X2 (.int 0))) (.fn 6 (.pr (.fn 8 (.pr X206 (.int 12))) (.int 7))))) (.fn 1 (.pr (.fn 1 (.pr X2 (.int 0))) (.fn 6 (.pr (.fn 8 (.pr X206 (.int 12))) (.int 8))))))))))))))
abbrev X213:E:=.fn 124 (.pr X2 X206)
abbrev X214:E:=.and X82 X195
abbrev X215:E:=.not X208
abbrev X216:E:=.cmp .eql (.var 27) (.fn 122 (.pr X2 (.pr (.fn 1 (.pr (.fn 1 (.pr X2 (.int 0))) (.fn 6 (.pr (.fn 8 (.pr X206 (.int 12))) (.int 2))))) (.fn 1 (.pr (.fn 1 (.pr X2 (.int 0))) (.fn 6 (.pr (.fn 8 (.pr X206 (.int 12))) (.int 0))))))))
abbrev X217:E:=.cmp .eql (.var 27) (.int 1)
abbrev X218:E:=.cmp .lss X206 (.int 0)
abbrev X219:E:=.not X218
abbrev X220:E:=.and X213 X219
abbrev X221:E:=.and X215 X219
abbrev X222:E:=.ar .add .i64 X206 (.int 1)
abbrev X223:E:=.cmp .lss (.fn 1 (.pr (.fn 1 (.pr X2 (.int 0))) (.fn 6 (.pr (.fn 8 (.pr X210 (.int 12))) (.int 0))))) (.fn 1 (.pr (.fn 1 (.pr X2 (.int 0))) (.fn 6 (.pr (.fn 8 (.pr X206 (.int 12))) (.int 0)))))
abbrev X224:E:=.and X213 (.and X219 X82)
abbrev X225:E:=.and X207 X221
abbrev X226:E:=.cmp .lss (.fn 9 (.pr (.fn 1 (.pr X2 (.int 0))) (.int 12))) X222
abbrev X227:E:=.not X226
abbrev X228:E:=.cmp .lss (.fn 7 (.pr (.fn 9 (.pr (.fn 1 (.pr X2 (.int 0))) (.int 12))) X222)) (.fn 7 (.pr (.fn 9 (.pr (.fn 1 (.pr X2 (.int 0))) (.int 12))) X206))
abbrev X229:E:=.cmp .lss (.fn 7 (.pr (.fn 9 (.pr (.fn 1 (.pr X2 (.int 0))) (.int 12))) X222)) (.int 0)
abbrev X230:E:=.not X229
def F229:E:=(.imp X1 X10)
theorem G229:Tr F229:=ii1 fun ρ p0=>by
 have:=(@z102 ρ X5 X3 X2 X6 X4 X0)
 try simp only [smA,smW] at *
 grind
def F230:E:=(.imp (.not X11) X14)
theorem G230:Tr F230:=ii1 fun ρ p0=>by
 have hq0:0≤E.I ρ (.fn 9 (.pr X0 (.int 2))):=Int.natCast_nonneg _
 try simp only [smA,smW] at *
 grind
def F231:E:=(.imp (.and X13 (.and X11 (.and X15 (.and X17 X34)))) X10)
theorem G231:Tr F231:=ii10 fun ρ p0 p1 p2 p3 p4 p5 p6 p7 p8 p9=>by
 have:=(@z102 ρ X5 X3 X2 X6 X4 X0)
 try simp only [smA,smW] at *
 grind
def F232:E:=(.imp (.and X12 X6) X10)
theorem G232:Tr F232:=ii2 fun ρ p0 p1=>by
 have:=(@z102 ρ X5 X3 X2 X6 X4 X0)
 try simp only [smA,smW] at *
 grind
def F233:E:=(.imp (.and X12 X36) X14)
theorem G233:Tr F233:=ii2 fun ρ p0 p1=>by
 try simp only [smA,smW] at *
 grind
def F234:E:=(.imp X16 X10)
theorem G234:Tr F234:=ii1 fun ρ p0=>by
 have:=(@z102 ρ X5 X3 X2 X6 X4 X0)
 try simp only [smA,smW] at *
 grind
def F235:E:=(.imp X35 X10)
theorem G235:Tr F235:=ii1 fun ρ p0=>by
 have:=(@z102 ρ X5 X3 X2 X6 X4 X0)
 try simp only [smA,smW] at *
 grind
def F236:E:=(.imp X18 X10)
theorem G236:Tr F236:=ii1 fun ρ p0=>by
 have:=(@z102 ρ X5 X3 X2 X6 X4 X0)
 try simp only [smA,smW] at *
 grind
def F237:E:=(.imp X20 X10)
theorem G237:Tr F237:=ii1 fun ρ p0=>by
 have:=(@z102 ρ X5 X3 X2 X6 X4 X0)
 try simp only [smA,smW] at *
 grind
def F238:E:=(.imp X22 X10)
theorem G238:Tr F238:=ii1 fun ρ p0=>by
 have:=(@z102 ρ X5 X3 X2 X6 X4 X0)
 try simp only [smA,smW] at *
 grind
def F239:E:=(.imp X24 X10)
theorem G239:Tr F239:=ii1 fun ρ p0=>by
 have:=(@z102 ρ X5 X3 X2 X6 X4 X0)
 try simp only [smA,smW] at *
 grind
def F240:E:=(.imp X26 X10)
theorem G240:Tr F240:=ii1 fun ρ p0=>by
 have:=(@z102 ρ X5 X3 X2 X6 X4 X0)
 try simp only [smA,smW] at *
 grind
def F241:E:=(.imp X13 X37)
theorem G241:Tr F241:=ii1 fun ρ p0=>by
 try simp only [smA,smW] at *
 grind
def F242:E:=(.imp (.not X6) X37)
theorem G242:Tr F242:=ii1 fun ρ p0=>by
 try simp only [smA,smW] at *
 grind
def F243:E:=(.fn 101 (.pr X0 (.int 0)))
theorem G243:Tr F243:=fun ρ=>by
 unfold F243
 exact t101_zero (by (try simp only [sm_I_int]); omega)
def F244:E:=(.imp (.and X39 (.and X41 (.and (.not X42) (.and (.not X43) (.and X44 (.and (.not X45) (.and (.not X46) (.and X47 (.and X37 X50))))))))) X10)
theorem G244:Tr F244:=ii18 fun ρ p0 p1 p2 p3 p4 p5 p6 p7 p8 p9 p10 p11 p12 p13 p14 p15 p16 p17=>by
 have:=(@z102 ρ X5 X3 X2 X6 X4 X0)
 have:=fun h0 h1=>@t101_fail ρ X38 X0 (.fn 9 (.pr X0 (.int 2))) h0 h1 (.fn 1 (.pr X0 (.fn 6 (.pr (.fn 8 (.pr X38 (.int 2))) (.int 0))))) (.fn 1 (.pr X0 (.fn 6 (.pr (.fn 8 (.pr X38 (.int 2))) (.int 1))))) rfl rfl
 try simp only [smA,smW] at *
 grind
def F245:E:=(.imp X14 X14)
theorem G245:Tr F245:=ii1 fun ρ p0=>by
 try simp only [smA,smW] at *
 grind
def F246:E:=(.imp (.and X39 (.and X41 (.and (.not X42) (.and X43 X47)))) X10)
theorem G246:Tr F246:=ii5 fun ρ p0 p1 p2 p3 p4=>by
 have:=(@z102 ρ X5 X3 X2 X6 X4 X0)
 have:=fun h0 h1=>@t101_fail ρ X38 X0 (.fn 9 (.pr X0 (.int 2))) h0 h1 (.fn 1 (.pr X0 (.fn 6 (.pr (.fn 8 (.pr X38 (.int 2))) (.int 0))))) (.fn 1 (.pr X0 (.fn 6 (.pr (.fn 8 (.pr X38 (.int 2))) (.int 1))))) rfl rfl
 try simp only [smA,smW] at *
 grind
def F247:E:=(.imp (.and X39 (.and X41 (.and X42 X47))) X10)
theorem G247:Tr F247:=ii4 fun ρ p0 p1 p2 p3=>by
 have:=(@z102 ρ X5 X3 X2 X6 X4 X0)
 have:=fun h0 h1=>@t101_fail ρ X38 X0 (.fn 9 (.pr X0 (.int 2))) h0 h1 (.fn 1 (.pr X0 (.fn 6 (.pr (.fn 8 (.pr X38 (.int 2))) (.int 0))))) (.fn 1 (.pr X0 (.fn 6 (.pr (.fn 8 (.pr X38 (.int 2))) (.int 1))))) rfl rfl
 try simp only [smA,smW] at *
 grind
def F248:E:=(.imp (.and X39 (.and X41 (.and X46 X47))) X10)
theorem G248:Tr F248:=ii4 fun ρ p0 p1 p2 p3=>by
 have:=(@z102 ρ X5 X3 X2 X6 X4 X0)
 have:=fun h0 h1=>@t101_fail ρ X38 X0 (.fn 9 (.pr X0 (.int 2))) h0 h1 (.fn 1 (.pr X0 (.fn 6 (.pr (.fn 8 (.pr X38 (.int 2))) (.int 0))))) (.fn 1 (.pr X0 (.fn 6 (.pr (.fn 8 (.pr X38 (.int 2))) (.int 1))))) rfl rfl
 try simp only [smA,smW] at *
 grind
def F249:E:=(.imp (.and X39 (.and X40 X47)) X10)
theorem G249:Tr F249:=ii3 fun ρ p0 p1 p2=>by
 have:=(@z102 ρ X5 X3 X2 X6 X4 X0)
 have:=fun h0 h1=>@t101_fail ρ X38 X0 (.fn 9 (.pr X0 (.int 2))) h0 h1 (.fn 1 (.pr X0 (.fn 6 (.pr (.fn 8 (.pr X38 (.int 2))) (.int 0))))) (.fn 1 (.pr X0 (.fn 6 (.pr (.fn 8 (.pr X38 (.int 2))) (.int 1))))) rfl rfl
 try simp only [smA,smW] at *
 grind
def F250:E:=(.imp (.and (.not X39) (.and X51 (.and X37 (.and X14 X50)))) (.iff (.bool true) X9))
theorem G250:Tr F250:=ii13 fun ρ p0 p1 p2 p3 p4 p5 p6 p7 p8 p9 p10 p11 p12=>by
 have:=(@z102 ρ X5 X3 X2 X6 X4 X0)
 have:=fun h1=>@t101_end ρ X38 X0 (.fn 9 (.pr X0 (.int 2))) p1 h1
 try simp only [smA,smW] at *
 grind
def F251:E:=(.imp X37 X37)
theorem G251:Tr F251:=ii1 fun ρ p0=>by
 try simp only [smA,smW] at *
 grind
def F252:E:=(.imp (.and X39 X52) X55)
theorem G252:Tr F252:=ii3 fun ρ p0 p1 p2=>by
 try simp only [smA,smW] at *
 obtain ⟨a8,ea8,qa8⟩:=cs_i64 ((E.I ρ X38) + (1))
 try simp only [ea8] at *
 grind
def F253:E:=(.imp X59 (.not (.cmp .lss (.fn 9 (.pr X0 (.int 2))) X53)))
theorem G253:Tr F253:=ii4 fun ρ p0 p1 p2 p3=>by
 try simp only [smA,smW] at *
 obtain ⟨a8,ea8,qa8⟩:=cs_i64 ((E.I ρ X38) + (1))
 try simp only [ea8] at *
 grind
def F254:E:=(.imp (.and X39 (.and X41 (.and (.not X42) (.and (.not X43) (.and X45 X61))))) (.fn 101 (.pr X0 X53)))
theorem G254:Tr F254:=ii9 fun ρ p0 p1 p2 p3 p4 p5 p6 p7 p8=>by
 have:=@wrap_add ρ X38 (.int 1)
 have:=fun h0 hm=>@t101_step ρ X38 X53 X0 p6 h0 hm (.fn 1 (.pr X0 (.fn 6 (.pr (.fn 8 (.pr X38 (.int 2))) (.int 0))))) (.fn 1 (.pr X0 (.fn 6 (.pr (.fn 8 (.pr X38 (.int 2))) (.int 1))))) rfl rfl
 try simp only [smA,smW] at *
 grind
def F255:E:=(.imp (.and X39 (.and X41 (.and (.not X42) (.and (.not X43) (.and (.not X44) X61))))) (.fn 101 (.pr X0 X53)))
theorem G255:Tr F255:=ii9 fun ρ p0 p1 p2 p3 p4 p5 p6 p7 p8=>by
 have:=@wrap_add ρ X38 (.int 1)
 have:=fun h0 hm=>@t101_step ρ X38 X53 X0 p6 h0 hm (.fn 1 (.pr X0 (.fn 6 (.pr (.fn 8 (.pr X38 (.int 2))) (.int 0))))) (.fn 1 (.pr X0 (.fn 6 (.pr (.fn 8 (.pr X38 (.int 2))) (.int 1))))) rfl rfl
 try simp only [smA,smW] at *
 grind
def F256:E:=(.imp (.and X39 X52) (.cmp .lss (.fn 7 (.pr (.fn 9 (.pr X0 (.int 2))) X53)) (.fn 7 (.pr (.fn 9 (.pr X0 (.int 2))) X38))))
theorem G256:Tr F256:=ii3 fun ρ p0 p1 p2=>by
 try simp only [smA,smW] at *
 obtain ⟨a8,ea8,qa8⟩:=cs_i64 ((E.I ρ X38) + (1))
 try simp only [ea8] at *
 grind
def F257:E:=(.imp X59 (.not (.cmp .lss (.fn 7 (.pr (.fn 9 (.pr X0 (.int 2))) X53)) (.int 0))))
theorem G257:Tr F257:=ii4 fun ρ p0 p1 p2 p3=>by
 try simp only [smA,smW] at *
 obtain ⟨a8,ea8,qa8⟩:=cs_i64 ((E.I ρ X38) + (1))
 try simp only [ea8] at *
 grind
namespace p9
def facts:List E:=[F229,F230,F231,F232,F233,F234,F235,F236,F237,F238,F239,F240,F13,F241,F242,F243,F244,F245,F246,F247,F248,F249,F250,F251,F252,F253,F254,F255,F256,F257]
theorem facts_ok:∀ e∈facts,Tr e:=(ac G229 (ac G230 (ac G231 (ac G232 (ac G233 (ac G234 (ac G235 (ac G236 (ac G237 (ac G238 (ac G239 (ac G240 (ac G13 (ac G241 (ac G242 (ac G243 (ac G244 (ac G245 (ac G246 (ac G247 (ac G248 (ac G249 (ac G250 (ac G251 (ac G252 (ac G253 (ac G254 (ac G255 (ac G256 (ac G257 all_nil))))))))))))))))))))))))))))))
end p9
theorem spec9_0:NatOk Try.prog (specNat (spIt)) :=
 spec_of_check good (facts:=p9.facts) p9.facts_ok (anns:=annIt) (plainAnns_ok _ (by kernel_rfl)) (nats:=natl10) natl10_ok (n:=3000) (by kernel_rfl)
def natl11:List Nat1:=specNat (spIt)::natl10
theorem natl11_ok:∀ x∈natl11,NatOk Try.prog x:=by
 intro x hx
 rcases List.mem_cons.1 hx with rfl | hx
 ·exact spec9_0
 exact natl10_ok x hx

def F258:E:=(.imp X66 X55)
theorem G258:Tr F258:=ii3 fun ρ p0 p1 p2=>by
 try simp only [smA,smW] at *
 have:=@fn0_nn ρ X2
 obtain ⟨a6,ea6,qa6⟩:=cs_i64 ((E.I ρ X38) + (1))
 try simp only [ea6] at *
 omega
def F259:E:=(.imp (.and (.not X62) X68) (.cmp .eql X67 (.fn 121 (.pr X2 X3))))
theorem G259:Tr F259:=ii2 fun ρ p0 p1=>by
 have:=@t121_end ρ X2 X3 X38
 try simp only [smA,smW] at *
 grind
def F260:E:=(.imp (.and X62 X47) (.not (.cmp .lss (.fn 0 X2) X53)))
theorem G260:Tr F260:=ii2 fun ρ p0 p1=>by
 try simp only [smA,smW] at *
 obtain ⟨a6,ea6,qa6⟩:=cs_i64 ((E.I ρ X38) + (1))
 try simp only [ea6] at *
 omega
def F261:E:=(.imp (.and (.not X62) (.and X70 (.and X68 (.not (.cmp .lss (.fn 0 X2) X38))))) (.not (.cmp .lss (.fn 0 X2) X67)))
theorem G261:Tr F261:=ii4 fun ρ p0 p1 p2 p3=>by
 try simp only [smA,smW] at *
 omega
def F262:E:=(.imp (.and X62 (.and X71 X76)) (.cmp .eql X77 (.fn 131 (.pr X2 (.pr X3 X53)))))
theorem G262:Tr F262:=ii7 fun ρ p0 p1 p2 p3 p4 p5 p6=>by
 have:=@wrap_add ρ X38 (.int 1)
 have:=@t131_step ρ X2 X3 X38 X53
 try simp only [smA,smW] at *
 obtain ⟨a7,ea7,qa7⟩:=cs_i64 ((E.I ρ X67) + (1))
 try simp only [ea7] at *
 grind
def F263:E:=(.imp (.and X62 (.and (.not X71) X76)) (.cmp .eql X67 (.fn 131 (.pr X2 (.pr X3 X53)))))
theorem G263:Tr F263:=ii7 fun ρ p0 p1 p2 p3 p4 p5 p6=>by
 have:=@wrap_add ρ X38 (.int 1)
 have:=@t131_step ρ X2 X3 X38 X53
 try simp only [smA,smW] at *
 grind
def F264:E:=(.imp X78 (.not (.cmp .lss X77 (.int 0))))
theorem G264:Tr F264:=ii6 fun ρ p0 p1 p2 p3 p4 p5=>by
 try simp only [smA,smW] at *
 have:=@fn0_nn ρ X2
 obtain ⟨a6,ea6,qa6⟩:=cs_i64 ((E.I ρ X67) + (1))
 try simp only [ea6] at *
 omega
def F265:E:=(.imp (.and X62 (.and X70 X74)) (.not (.cmp .lss X53 X67)))
theorem G265:Tr F265:=ii5 fun ρ p0 p1 p2 p3 p4=>by
 try simp only [smA,smW] at *
 have:=@fn0_nn ρ X2
 obtain ⟨a6,ea6,qa6⟩:=cs_i64 ((E.I ρ X38) + (1))
 try simp only [ea6] at *
 omega
def F266:E:=(.imp X78 (.not (.cmp .lss X53 X77)))
theorem G266:Tr F266:=ii6 fun ρ p0 p1 p2 p3 p4 p5=>by
 try simp only [smA,smW] at *
 have:=@fn0_nn ρ X2
 obtain ⟨a6,ea6,qa6⟩:=cs_i64 ((E.I ρ X38) + (1))
 try simp only [ea6] at *
 obtain ⟨a7,ea7,qa7⟩:=cs_i64 ((E.I ρ X67) + (1))
 try simp only [ea7] at *
 omega
def F267:E:=(.imp X66 (.cmp .lss (.fn 7 (.pr (.fn 0 X2) X53)) (.fn 7 (.pr (.fn 0 X2) X38))))
theorem G267:Tr F267:=ii3 fun ρ p0 p1 p2=>by
 try simp only [smA,smW] at *
 have:=@fn0_nn ρ X2
 obtain ⟨a6,ea6,qa6⟩:=cs_i64 ((E.I ρ X38) + (1))
 try simp only [ea6] at *
 omega
def F268:E:=(.imp (.and X62 X47) (.not (.cmp .lss (.fn 7 (.pr (.fn 0 X2) X53)) (.int 0))))
theorem G268:Tr F268:=ii2 fun ρ p0 p1=>by
 try simp only [smA,smW] at *
 obtain ⟨a6,ea6,qa6⟩:=cs_i64 ((E.I ρ X38) + (1))
 try simp only [ea6] at *
 omega
namespace p10
def facts:List E:=[F39,F258,F259,F260,F261,F262,F263,F264,F265,F266,F267,F268]
theorem facts_ok:∀ e∈facts,Tr e:=(ac G39 (ac G258 (ac G259 (ac G260 (ac G261 (ac G262 (ac G263 (ac G264 (ac G265 (ac G266 (ac G267 (ac G268 all_nil))))))))))))
end p10
theorem spec10_0:NatOk Try.prog (specNat (spCt)) :=
 spec_of_check good (facts:=p10.facts) p10.facts_ok (anns:=annCt) (plainAnns_ok _ (by kernel_rfl)) (nats:=natl11) natl11_ok (n:=3000) (by kernel_rfl)
def natl12:List Nat1:=specNat (spCt)::natl11
theorem natl12_ok:∀ x∈natl12,NatOk Try.prog x:=by
 intro x hx
 rcases List.mem_cons.1 hx with rfl | hx
 ·exact spec10_0
 exact natl11_ok x hx

def F269:E:=(.cmp .eql (.fn 120 (.pr X2 (.pr X3 (.int 0)))) (.int (-1)))
theorem G269:Tr F269:=fun ρ=>by
 unfold F269
 have:=@t120_zero ρ X3 (.int 0) X2
 try simp only [smA,smW] at *
 grind
def F270:E:=(.imp (.and X79 (.and X80 (.and X81 X47))) (.cmp .eql X38 (.fn 120 (.pr X2 (.pr X3 (.fn 9 (.pr (.fn 1 (.pr X2 (.int 0))) (.int 12))))))))
theorem G270:Tr F270:=ii4 fun ρ p0 p1 p2 p3=>by
 have:=fun h=>@t120_step ρ X3 X38 (.fn 6 (.pr X38 (.int 1))) X2 (.fn 9 (.pr (.fn 1 (.pr X2 (.int 0))) (.int 12))) h (.fn 1 (.pr (.fn 1 (.pr X2 (.int 0))) (.fn 6 (.pr (.fn 8 (.pr X38 (.int 12))) (.int 0))))) rfl
 try simp only [smA,smW] at *
 grind
def F271:E:=(.imp (.and X82 X83) X55)
theorem G271:Tr F271:=ii3 fun ρ p0 p1 p2=>by
 have:=t117 p0
 try simp only [smA,smW] at *
 obtain ⟨a5,ea5,qa5⟩:=cs_i64 ((E.I ρ X38) + (1))
 try simp only [ea5] at *
 omega
def F272:E:=(.imp (.and (.not X79) (.and X81 (.not (.cmp .lss (.fn 9 (.pr (.fn 1 (.pr X2 (.int 0))) (.int 12))) X38)))) (.cmp .eql (.fn 120 (.pr X2 (.pr X3 (.fn 9 (.pr (.fn 1 (.pr X2 (.int 0))) (.int 12)))))) (.int (-1))))
theorem G272:Tr F272:=ii3 fun ρ p0 p1 p2=>by
 have:=@t120_eq ρ X3 X38 (.fn 9 (.pr (.fn 1 (.pr X2 (.int 0))) (.int 12))) X2
 try simp only [smA,smW] at *
 grind
def F273:E:=(.imp X83 (.not (.cmp .lss (.fn 9 (.pr (.fn 1 (.pr X2 (.int 0))) (.int 12))) X53)))
theorem G273:Tr F273:=ii2 fun ρ p0 p1=>by
 try simp only [smA,smW] at *
 obtain ⟨a5,ea5,qa5⟩:=cs_i64 ((E.I ρ X38) + (1))
 try simp only [ea5] at *
 omega
def F274:E:=(.imp (.and X79 (.and (.not X80) (.and X81 (.and X47 X82)))) (.cmp .eql (.fn 120 (.pr X2 (.pr X3 X53))) (.int (-1))))
theorem G274:Tr F274:=ii5 fun ρ p0 p1 p2 p3 p4=>by
 have:=t117 p4
 have:=@wrap_add ρ X38 (.int 1)
 have:=fun h=>@t120_step ρ X3 X38 X53 X2 (.fn 9 (.pr (.fn 1 (.pr X2 (.int 0))) (.int 12))) h (.fn 1 (.pr (.fn 1 (.pr X2 (.int 0))) (.fn 6 (.pr (.fn 8 (.pr X38 (.int 12))) (.int 0))))) rfl
 try simp only [smA,smW] at *
 grind
def F275:E:=(.imp (.and X82 X83) (.cmp .lss (.fn 7 (.pr (.fn 9 (.pr (.fn 1 (.pr X2 (.int 0))) (.int 12))) X53)) (.fn 7 (.pr (.fn 9 (.pr (.fn 1 (.pr X2 (.int 0))) (.int 12))) X38))))
theorem G275:Tr F275:=ii3 fun ρ p0 p1 p2=>by
 have:=t117 p0
 try simp only [smA,smW] at *
 obtain ⟨a5,ea5,qa5⟩:=cs_i64 ((E.I ρ X38) + (1))
 try simp only [ea5] at *
 omega
def F276:E:=(.imp X83 (.not (.cmp .lss (.fn 7 (.pr (.fn 9 (.pr (.fn 1 (.pr X2 (.int 0))) (.int 12))) X53)) (.int 0))))
theorem G276:Tr F276:=ii2 fun ρ p0 p1=>by
 try simp only [smA,smW] at *
 obtain ⟨a5,ea5,qa5⟩:=cs_i64 ((E.I ρ X38) + (1))
 try simp only [ea5] at *
 omega
namespace p11
def facts:List E:=[F105,F269,F270,F271,F272,F273,F274,F275,F276]
theorem facts_ok:∀ e∈facts,Tr e:=(ac G105 (ac G269 (ac G270 (ac G271 (ac G272 (ac G273 (ac G274 (ac G275 (ac G276 all_nil)))))))))
end p11
theorem spec11_0:NatOk Try.prog (specNat (spId)) :=
 spec_of_check good (facts:=p11.facts) p11.facts_ok (anns:=annId) (plainAnns_ok _ (by kernel_rfl)) (nats:=natl12) natl12_ok (n:=3000) (by kernel_rfl)
def natl13:List Nat1:=specNat (spId)::natl12
theorem natl13_ok:∀ x∈natl13,NatOk Try.prog x:=by
 intro x hx
 rcases List.mem_cons.1 hx with rfl | hx
 ·exact spec11_0
 exact natl12_ok x hx

def F277:E:=(.imp X82 (.not (.cmp .lss (.int 1000) (.fn 0 (.fn 1 (.pr X2 (.int 6)))))))
theorem G277:Tr F277:=ii1 fun ρ p0=>by
 have:=t117 p0
 try simp only [smA,smW] at *
 have:=@fn0_nn ρ (.fn 1 (.pr X2 (.int 6)))
 omega
def F278:E:=(.imp X82 (.not (.cmp .lss (.int 1000) (.fn 0 (.fn 1 (.pr X2 (.int 20)))))))
theorem G278:Tr F278:=ii1 fun ρ p0=>by
 have:=t117 p0
 try simp only [smA,smW] at *
 have:=@fn0_nn ρ (.fn 1 (.pr X2 (.int 20)))
 omega
def F279:E:=(.imp X82 (.not (.cmp .lss (.int 1000) (.fn 0 (.fn 1 (.pr X2 (.int 7)))))))
theorem G279:Tr F279:=ii1 fun ρ p0=>by
 have:=t117 p0
 try simp only [smA,smW] at *
 have:=@fn0_nn ρ (.fn 1 (.pr X2 (.int 7)))
 omega
def F280:E:=(.imp X82 (.not (.cmp .lss (.int 1000) (.fn 0 (.fn 1 (.pr X2 (.int 21)))))))
theorem G280:Tr F280:=ii1 fun ρ p0=>by
 have:=t117 p0
 try simp only [smA,smW] at *
 have:=@fn0_nn ρ (.fn 1 (.pr X2 (.int 21)))
 omega
def F281:E:=(.imp X82 (.not (.cmp .lss (.int 1000) (.fn 0 (.fn 1 (.pr X2 (.int 8)))))))
theorem G281:Tr F281:=ii1 fun ρ p0=>by
 have:=t117 p0
 try simp only [smA,smW] at *
 have:=@fn0_nn ρ (.fn 1 (.pr X2 (.int 8)))
 omega
def F282:E:=(.imp X82 (.not (.cmp .lss (.int 1000) (.fn 0 (.fn 1 (.pr X2 (.int 22)))))))
theorem G282:Tr F282:=ii1 fun ρ p0=>by
 have:=t117 p0
 try simp only [smA,smW] at *
 have:=@fn0_nn ρ (.fn 1 (.pr X2 (.int 22)))
 omega
def F283:E:=(.imp X82 (.not (.cmp .lss (.int 1000) (.fn 0 (.fn 1 (.pr X2 (.int 9)))))))
theorem G283:Tr F283:=ii1 fun ρ p0=>by
 have:=t117 p0
 try simp only [smA,smW] at *
 have:=@fn0_nn ρ (.fn 1 (.pr X2 (.int 9)))
 omega
def F284:E:=(.imp X82 (.not (.cmp .lss (.int 1000) (.fn 0 (.fn 1 (.pr X2 (.int 23)))))))
theorem G284:Tr F284:=ii1 fun ρ p0=>by
 have:=t117 p0
 try simp only [smA,smW] at *
 have:=@fn0_nn ρ (.fn 1 (.pr X2 (.int 23)))
 omega
def F285:E:=(.imp (.and (.cmp .eql X3 (.int 0)) X112) X114)
theorem G285:Tr F285:=ii14 fun ρ p0 p1 p2 p3 p4 p5 p6 p7 p8 p9 p10 p11 p12 p13=>by
 have:=t117 p13
 have:=@t132_0 ρ X4 X3 X2
 have:=@t133_zero ρ X4 X3 X2 (.int 0)
 try simp only [smA,smW] at *
 obtain ⟨a15,ea15,qa15⟩:=cs_i64 ((0) + (E.I ρ X5))
 try simp only [ea15] at *
 obtain ⟨a16,ea16,qa16⟩:=cs_i64 (a15 + (E.I ρ X0))
 try simp only [ea16] at *
 obtain ⟨a17,ea17,qa17⟩:=cs_i64 (a16 + (E.I ρ X6))
 try simp only [ea17] at *
 obtain ⟨a18,ea18,qa18⟩:=cs_i64 (a17 + (E.I ρ X96))
 try simp only [ea18] at *
 grind
def F286:E:=(.imp (.and (.not (.cmp .eql X3 (.int 0))) (.and X116 (.and X13 (.and X117 (.and X119 (.and X90 (.and X120 (.and X122 (.and X94 (.and X123 (.and X125 (.and X99 (.and X126 (.and (.not (.cmp .lss (.int 1) X3)) (.and X128 X82))))))))))))))) X114)
theorem G286:Tr F286:=ii16 fun ρ p0 p1 p2 p3 p4 p5 p6 p7 p8 p9 p10 p11 p12 p13 p14 p15=>by
 have:=t117 p15
 have:=@t132_1 ρ X4 X3 X2
 have:=@t133_zero ρ X4 X3 X2 (.int 0)
 try simp only [smA,smW] at *
 obtain ⟨a15,ea15,qa15⟩:=cs_i64 ((0) + (E.I ρ X5))
 try simp only [ea15] at *
 obtain ⟨a16,ea16,qa16⟩:=cs_i64 (a15 + (E.I ρ X0))
 try simp only [ea16] at *
 obtain ⟨a17,ea17,qa17⟩:=cs_i64 (a16 + (E.I ρ X6))
 try simp only [ea17] at *
 obtain ⟨a18,ea18,qa18⟩:=cs_i64 (a17 + (E.I ρ X96))
 try simp only [ea18] at *
 grind
def F287:E:=(.imp X112 (.not (.cmp .lss X113 (.int 0))))
theorem G287:Tr F287:=ii13 fun ρ p0 p1 p2 p3 p4 p5 p6 p7 p8 p9 p10 p11 p12=>by
 have:=t117 p12
 try simp only [smA,smW] at *
 have:=@fn0_nn ρ (.fn 1 (.pr X2 (.int 6)))
 have:=@fn0_nn ρ (.fn 1 (.pr X2 (.int 7)))
 have:=@fn0_nn ρ (.fn 1 (.pr X2 (.int 8)))
 have:=@fn0_nn ρ (.fn 1 (.pr X2 (.int 9)))
 obtain ⟨a13,ea13,qa13⟩:=cs_i64 ((0) + (E.I ρ X5))
 try simp only [ea13] at *
 obtain ⟨a14,ea14,qa14⟩:=cs_i64 (a13 + (E.I ρ X0))
 try simp only [ea14] at *
 obtain ⟨a15,ea15,qa15⟩:=cs_i64 (a14 + (E.I ρ X6))
 try simp only [ea15] at *
 obtain ⟨a16,ea16,qa16⟩:=cs_i64 (a15 + (E.I ρ X96))
 try simp only [ea16] at *
 omega
def F288:E:=(.imp X138 (.not (.cmp .lss X113 (.int 0))))
theorem G288:Tr F288:=ii13 fun ρ p0 p1 p2 p3 p4 p5 p6 p7 p8 p9 p10 p11 p12=>by
 have:=t117 p12
 try simp only [smA,smW] at *
 have:=@fn0_nn ρ (.fn 1 (.pr X2 (.int 20)))
 have:=@fn0_nn ρ (.fn 1 (.pr X2 (.int 21)))
 have:=@fn0_nn ρ (.fn 1 (.pr X2 (.int 22)))
 have:=@fn0_nn ρ (.fn 1 (.pr X2 (.int 23)))
 obtain ⟨a13,ea13,qa13⟩:=cs_i64 ((0) + (E.I ρ X5))
 try simp only [ea13] at *
 obtain ⟨a14,ea14,qa14⟩:=cs_i64 (a13 + (E.I ρ X0))
 try simp only [ea14] at *
 obtain ⟨a15,ea15,qa15⟩:=cs_i64 (a14 + (E.I ρ X6))
 try simp only [ea15] at *
 obtain ⟨a16,ea16,qa16⟩:=cs_i64 (a15 + (E.I ρ X96))
 try simp only [ea16] at *
 omega
def F289:E:=(.imp X112 (.not (.cmp .lss (.int 800) X113)))
theorem G289:Tr F289:=ii13 fun ρ p0 p1 p2 p3 p4 p5 p6 p7 p8 p9 p10 p11 p12=>by
 have:=t117 p12
 try simp only [smA,smW] at *
 have:=@fn0_nn ρ (.fn 1 (.pr X2 (.int 6)))
 have:=@fn0_nn ρ (.fn 1 (.pr X2 (.int 7)))
 have:=@fn0_nn ρ (.fn 1 (.pr X2 (.int 8)))
 have:=@fn0_nn ρ (.fn 1 (.pr X2 (.int 9)))
 obtain ⟨a13,ea13,qa13⟩:=cs_i64 ((0) + (E.I ρ X5))
 try simp only [ea13] at *
 obtain ⟨a14,ea14,qa14⟩:=cs_i64 (a13 + (E.I ρ X0))
 try simp only [ea14] at *
 obtain ⟨a15,ea15,qa15⟩:=cs_i64 (a14 + (E.I ρ X6))
 try simp only [ea15] at *
 obtain ⟨a16,ea16,qa16⟩:=cs_i64 (a15 + (E.I ρ X96))
 try simp only [ea16] at *
 omega
def F290:E:=(.imp X138 (.not (.cmp .lss (.int 800) X113)))
theorem G290:Tr F290:=ii13 fun ρ p0 p1 p2 p3 p4 p5 p6 p7 p8 p9 p10 p11 p12=>by
 have:=t117 p12
 try simp only [smA,smW] at *
 have:=@fn0_nn ρ (.fn 1 (.pr X2 (.int 20)))
 have:=@fn0_nn ρ (.fn 1 (.pr X2 (.int 21)))
 have:=@fn0_nn ρ (.fn 1 (.pr X2 (.int 22)))
 have:=@fn0_nn ρ (.fn 1 (.pr X2 (.int 23)))
 obtain ⟨a13,ea13,qa13⟩:=cs_i64 ((0) + (E.I ρ X5))
 try simp only [ea13] at *
 obtain ⟨a14,ea14,qa14⟩:=cs_i64 (a13 + (E.I ρ X0))
 try simp only [ea14] at *
 obtain ⟨a15,ea15,qa15⟩:=cs_i64 (a14 + (E.I ρ X6))
 try simp only [ea15] at *
 obtain ⟨a16,ea16,qa16⟩:=cs_i64 (a15 + (E.I ρ X96))
 try simp only [ea16] at *
 omega
def F291:E:=(.imp X143 (.not (.cmp .lss X144 (.int 0))))
theorem G291:Tr F291:=ii3 fun ρ p0 p1 p2=>by
 have:=t117 p0
 try simp only [smA,smW] at *
 obtain ⟨a10,ea10,qa10⟩:=cs_i64 ((E.I ρ X139) + (1))
 try simp only [ea10] at *
 omega
def F292:E:=(.imp (.and (.not X140) (.and X146 (.and X148 X128))) (.cmp .eql X145 (.fn 122 (.pr X2 (.pr X3 X4)))))
theorem G292:Tr F292:=ii4 fun ρ p0 p1 p2 p3=>by
 have:=@t122 ρ X4 X3 X2 X139
 try simp only [smA,smW] at *
 grind
def F293:E:=(.imp X143 (.not (.cmp .lss (.fn 9 (.pr (.fn 1 (.pr X2 (.int 29))) (.int 5))) X144)))
theorem G293:Tr F293:=ii3 fun ρ p0 p1 p2=>by
 have:=t117 p0
 try simp only [smA,smW] at *
 obtain ⟨a10,ea10,qa10⟩:=cs_i64 ((E.I ρ X139) + (1))
 try simp only [ea10] at *
 omega
def F294:E:=(.imp (.and (.not X140) (.and X150 (.and X146 X151))) (.not (.cmp .lss (.int 1000) X145)))
theorem G294:Tr F294:=ii5 fun ρ p0 p1 p2 p3 p4=>by
 have:=t117 p4
 try simp only [smA,smW] at *
 omega
def F295:E:=(.imp (.and X140 (.and X152 (.and X153 (.and X154 X159)))) (.cmp .eql X160 (.fn 6 (.pr (.fn 132 (.pr X2 (.pr X3 (.pr (.int 4) X4)))) (.fn 133 (.pr X2 (.pr X3 (.pr X4 X144))))))))
theorem G295:Tr F295:=ii9 fun ρ p0 p1 p2 p3 p4 p5 p6 p7 p8=>by
 have:=t117 p8
 have:=@wrap_add ρ X139 (.int 1)
 have:=@t133_step ρ X4 X3 X144 X2 X139 (.fn 1 (.pr (.fn 1 (.pr X2 (.int 29))) (.fn 6 (.pr (.fn 8 (.pr X139 (.int 5))) (.int 0))))) (.fn 1 (.pr (.fn 1 (.pr X2 (.int 29))) (.fn 6 (.pr (.fn 8 (.pr X139 (.int 5))) (.int 1))))) (.fn 1 (.pr (.fn 1 (.pr X2 (.int 29))) (.fn 6 (.pr (.fn 8 (.pr X139 (.int 5))) (.int 3))))) rfl rfl rfl
 try simp only [smA,smW] at *
 obtain ⟨a11,ea11,qa11⟩:=cs_i64 ((E.I ρ X145) + (1))
 try simp only [ea11] at *
 grind
def F296:E:=(.imp (.and X140 (.and (.not X154) X157)) X161)
theorem G296:Tr F296:=ii5 fun ρ p0 p1 p2 p3 p4=>by
 have:=t117 p4
 have:=@wrap_add ρ X139 (.int 1)
 have:=@t133_step ρ X4 X3 X144 X2 X139 (.fn 1 (.pr (.fn 1 (.pr X2 (.int 29))) (.fn 6 (.pr (.fn 8 (.pr X139 (.int 5))) (.int 0))))) (.fn 1 (.pr (.fn 1 (.pr X2 (.int 29))) (.fn 6 (.pr (.fn 8 (.pr X139 (.int 5))) (.int 1))))) (.fn 1 (.pr (.fn 1 (.pr X2 (.int 29))) (.fn 6 (.pr (.fn 8 (.pr X139 (.int 5))) (.int 3))))) rfl rfl rfl
 try simp only [smA,smW] at *
 grind
def F297:E:=(.imp (.and X140 (.and (.not X153) X157)) X161)
theorem G297:Tr F297:=ii5 fun ρ p0 p1 p2 p3 p4=>by
 have:=t117 p4
 have:=@wrap_add ρ X139 (.int 1)
 have:=@t133_step ρ X4 X3 X144 X2 X139 (.fn 1 (.pr (.fn 1 (.pr X2 (.int 29))) (.fn 6 (.pr (.fn 8 (.pr X139 (.int 5))) (.int 0))))) (.fn 1 (.pr (.fn 1 (.pr X2 (.int 29))) (.fn 6 (.pr (.fn 8 (.pr X139 (.int 5))) (.int 1))))) (.fn 1 (.pr (.fn 1 (.pr X2 (.int 29))) (.fn 6 (.pr (.fn 8 (.pr X139 (.int 5))) (.int 3))))) rfl rfl rfl
 try simp only [smA,smW] at *
 grind
def F298:E:=(.imp (.and X140 (.and (.not X152) X157)) X161)
theorem G298:Tr F298:=ii5 fun ρ p0 p1 p2 p3 p4=>by
 have:=t117 p4
 have:=@wrap_add ρ X139 (.int 1)
 have:=@t133_step ρ X4 X3 X144 X2 X139 (.fn 1 (.pr (.fn 1 (.pr X2 (.int 29))) (.fn 6 (.pr (.fn 8 (.pr X139 (.int 5))) (.int 0))))) (.fn 1 (.pr (.fn 1 (.pr X2 (.int 29))) (.fn 6 (.pr (.fn 8 (.pr X139 (.int 5))) (.int 1))))) (.fn 1 (.pr (.fn 1 (.pr X2 (.int 29))) (.fn 6 (.pr (.fn 8 (.pr X139 (.int 5))) (.int 3))))) rfl rfl rfl
 try simp only [smA,smW] at *
 grind
def F299:E:=(.imp X162 (.not (.cmp .lss X160 (.int 0))))
theorem G299:Tr F299:=ii6 fun ρ p0 p1 p2 p3 p4 p5=>by
 have:=t117 p5
 try simp only [smA,smW] at *
 obtain ⟨a10,ea10,qa10⟩:=cs_i64 ((E.I ρ X145) + (1))
 try simp only [ea10] at *
 omega
def F300:E:=(.imp (.and X140 (.and X150 X157)) (.not (.cmp .lss (.fn 6 (.pr (.int 800) X144)) X145)))
theorem G300:Tr F300:=ii5 fun ρ p0 p1 p2 p3 p4=>by
 have:=t117 p4
 try simp only [smA,smW] at *
 obtain ⟨a10,ea10,qa10⟩:=cs_i64 ((E.I ρ X139) + (1))
 try simp only [ea10] at *
 omega
def F301:E:=(.imp X162 (.not (.cmp .lss (.fn 6 (.pr (.int 800) X144)) X160)))
theorem G301:Tr F301:=ii6 fun ρ p0 p1 p2 p3 p4 p5=>by
 have:=t117 p5
 try simp only [smA,smW] at *
 obtain ⟨a10,ea10,qa10⟩:=cs_i64 ((E.I ρ X139) + (1))
 try simp only [ea10] at *
 obtain ⟨a11,ea11,qa11⟩:=cs_i64 ((E.I ρ X145) + (1))
 try simp only [ea11] at *
 omega
def F302:E:=(.imp X143 (.cmp .lss (.fn 7 (.pr (.fn 9 (.pr (.fn 1 (.pr X2 (.int 29))) (.int 5))) X144)) (.fn 7 (.pr (.fn 9 (.pr (.fn 1 (.pr X2 (.int 29))) (.int 5))) X139))))
theorem G302:Tr F302:=ii3 fun ρ p0 p1 p2=>by
 have:=t117 p0
 try simp only [smA,smW] at *
 obtain ⟨a10,ea10,qa10⟩:=cs_i64 ((E.I ρ X139) + (1))
 try simp only [ea10] at *
 omega
def F303:E:=(.imp X143 (.not (.cmp .lss (.fn 7 (.pr (.fn 9 (.pr (.fn 1 (.pr X2 (.int 29))) (.int 5))) X144)) (.int 0))))
theorem G303:Tr F303:=ii3 fun ρ p0 p1 p2=>by
 have:=t117 p0
 try simp only [smA,smW] at *
 obtain ⟨a10,ea10,qa10⟩:=cs_i64 ((E.I ρ X139) + (1))
 try simp only [ea10] at *
 omega
namespace p12
def facts:List E:=[F277,F278,F279,F280,F281,F282,F283,F284,F80,F285,F286,F287,F288,F289,F290,F291,F292,F293,F294,F295,F296,F297,F298,F299,F300,F301,F302,F303]
theorem facts_ok:∀ e∈facts,Tr e:=(ac G277 (ac G278 (ac G279 (ac G280 (ac G281 (ac G282 (ac G283 (ac G284 (ac G80 (ac G285 (ac G286 (ac G287 (ac G288 (ac G289 (ac G290 (ac G291 (ac G292 (ac G293 (ac G294 (ac G295 (ac G296 (ac G297 (ac G298 (ac G299 (ac G300 (ac G301 (ac G302 (ac G303 all_nil))))))))))))))))))))))))))))
end p12
theorem spec12_0:NatOk Try.prog (specNat (spPc)) :=
 spec_of_check good (facts:=p12.facts) p12.facts_ok (anns:=annPc) (plainAnns_ok _ (by kernel_rfl)) (nats:=natl13) natl13_ok (n:=3000) (by kernel_rfl)
def natl14:List Nat1:=specNat (spPc)::natl13
theorem natl14_ok:∀ x∈natl14,NatOk Try.prog x:=by
 intro x hx
 rcases List.mem_cons.1 hx with rfl | hx
 ·exact spec12_0
 exact natl13_ok x hx

def F304:E:=(.imp (.and X163 (.and X164 (.and X21 (.cmp .lss (.int 1) X4)))) X172)
theorem G304:Tr F304:=ii4 fun ρ p0 p1 p2 p3=>by
 have:=@z137 ρ X2 X3 X4 X5 X0 X6 X96 X165 X38
 try simp only [smA,smW] at *
 grind
def F305:E:=(.imp (.and X163 (.and X164 (.and X21 (.and X173 (.and X128 (.and X174 (.and (.not X175) X180))))))) X172)
theorem G305:Tr F305:=ii9 fun ρ p0 p1 p2 p3 p4 p5 p6 p7 p8=>by
 have:=@z137 ρ X2 X3 X4 X5 X0 X6 X96 X165 X38
 try simp only [smA,smW] at *
 grind
def F306:E:=(.imp (.and X163 (.and X164 (.and X21 (.and X173 (.and X174 (.and X175 (.cmp .lss X6 (.int 0)))))))) X172)
theorem G306:Tr F306:=ii7 fun ρ p0 p1 p2 p3 p4 p5 p6=>by
 have:=@z137 ρ X2 X3 X4 X5 X0 X6 X96 X165 X38
 try simp only [smA,smW] at *
 grind
def F307:E:=(.imp (.and X163 (.and X164 (.and X21 (.and X173 (.and X174 (.and X175 (.and X94 (.cmp .lss X96 (.int 0))))))))) X172)
theorem G307:Tr F307:=ii8 fun ρ p0 p1 p2 p3 p4 p5 p6 p7=>by
 have:=@z137 ρ X2 X3 X4 X5 X0 X6 X96 X165 X38
 try simp only [smA,smW] at *
 grind
def F308:E:=(.imp (.and X163 (.and X164 (.and X21 (.and X173 (.and X174 (.and X175 (.and X94 (.and X99 X181)))))))) X172)
theorem G308:Tr F308:=ii9 fun ρ p0 p1 p2 p3 p4 p5 p6 p7 p8=>by
 have:=@z137 ρ X2 X3 X4 X5 X0 X6 X96 X165 X38
 try simp only [smA,smW] at *
 grind
def F309:E:=(.imp (.and X163 (.and X164 (.and X21 (.and X173 (.and X174 (.and X175 (.and X94 (.and X99 (.and X182 (.cmp .lss X38 (.int 0))))))))))) X172)
theorem G309:Tr F309:=ii10 fun ρ p0 p1 p2 p3 p4 p5 p6 p7 p8 p9=>by
 have:=@z137 ρ X2 X3 X4 X5 X0 X6 X96 X165 X38
 try simp only [smA,smW] at *
 grind
def F310:E:=(.imp (.and X163 (.and X164 (.and X21 (.and X173 (.and X174 (.and X175 (.and X94 (.and X99 (.and X182 (.and X47 (.and X177 (.and X179 X187)))))))))))) X188)
theorem G310:Tr F310:=ii15 fun ρ p0 p1 p2 p3 p4 p5 p6 p7 p8 p9 p10 p11 p12 p13 p14=>by
 have:=@z137 ρ X2 X3 X4 X5 X0 X6 X96 X165 X38
 try simp only [smA,smW] at *
 grind
def F311:E:=(.imp (.and X163 (.and X164 (.and X21 (.and X173 (.and X174 (.and X175 (.and X94 (.and X99 (.and X182 X185))))))))) X172)
theorem G311:Tr F311:=ii10 fun ρ p0 p1 p2 p3 p4 p5 p6 p7 p8 p9=>by
 have:=@z137 ρ X2 X3 X4 X5 X0 X6 X96 X165 X38
 try simp only [smA,smW] at *
 grind
def F312:E:=(.imp (.and X163 (.and X164 (.and X21 (.and X173 (.and X174 (.and X175 (.and X94 (.and X99 X184)))))))) X172)
theorem G312:Tr F312:=ii9 fun ρ p0 p1 p2 p3 p4 p5 p6 p7 p8=>by
 have:=@z137 ρ X2 X3 X4 X5 X0 X6 X96 X165 X38
 try simp only [smA,smW] at *
 grind
def F313:E:=(.imp (.and X163 (.and X164 (.and X21 (.and X173 (.and X174 (.and X175 (.and X94 X183))))))) X172)
theorem G313:Tr F313:=ii8 fun ρ p0 p1 p2 p3 p4 p5 p6 p7=>by
 have:=@z137 ρ X2 X3 X4 X5 X0 X6 X96 X165 X38
 try simp only [smA,smW] at *
 grind
def F314:E:=(.imp (.and X163 (.and X164 (.and X21 (.and X173 (.and X128 (.and (.not X174) X180)))))) X172)
theorem G314:Tr F314:=ii8 fun ρ p0 p1 p2 p3 p4 p5 p6 p7=>by
 have:=@z137 ρ X2 X3 X4 X5 X0 X6 X96 X165 X38
 try simp only [smA,smW] at *
 grind
def F315:E:=(.imp (.and X163 (.and X164 (.and X21 (.and X173 (.and X127 (.and X13 (.and X90 (.and X94 (.and X99 (.and X182 (.and X47 (.and X177 (.and (.not (.cmp .lss (.int 99) X5)) (.and (.not (.cmp .lss (.int 99) X0)) X187)))))))))))))) X188)
theorem G315:Tr F315:=ii17 fun ρ p0 p1 p2 p3 p4 p5 p6 p7 p8 p9 p10 p11 p12 p13 p14 p15 p16=>by
 have:=@z137 ρ X2 X3 X4 X5 X0 X6 X96 X165 X38
 try simp only [smA,smW] at *
 grind
def F316:E:=(.imp (.and X163 (.and X164 X20)) X172)
theorem G316:Tr F316:=ii3 fun ρ p0 p1 p2=>by
 have:=@z137 ρ X2 X3 X4 X5 X0 X6 X96 X165 X38
 try simp only [smA,smW] at *
 grind
def F317:E:=(.imp (.and X163 (.and X164 X178)) X172)
theorem G317:Tr F317:=ii3 fun ρ p0 p1 p2=>by
 have:=@z137 ρ X2 X3 X4 X5 X0 X6 X96 X165 X38
 try simp only [smA,smW] at *
 grind
namespace p13
def facts:List E:=[F304,F305,F306,F307,F308,F309,F310,F311,F312,F313,F314,F68,F67,F66,F65,F64,F63,F315,F51,F50,F49,F48,F47,F316,F317,F56,F57,F58]
theorem facts_ok:∀ e∈facts,Tr e:=(ac G304 (ac G305 (ac G306 (ac G307 (ac G308 (ac G309 (ac G310 (ac G311 (ac G312 (ac G313 (ac G314 (ac G68 (ac G67 (ac G66 (ac G65 (ac G64 (ac G63 (ac G315 (ac G51 (ac G50 (ac G49 (ac G48 (ac G47 (ac G316 (ac G317 (ac G56 (ac G57 (ac G58 all_nil))))))))))))))))))))))))))))
end p13
theorem spec13_0:NatOk Try.prog (specNat (spOV 75)) :=
 spec_of_check good (facts:=p13.facts) p13.facts_ok (anns:=[]) (plainAnns_ok _ (by kernel_rfl)) (nats:=natl14) natl14_ok (n:=3000) (by kernel_rfl)
def natl15:List Nat1:=specNat (spOV 75)::natl14
theorem natl15_ok:∀ x∈natl15,NatOk Try.prog x:=by
 intro x hx
 rcases List.mem_cons.1 hx with rfl | hx
 ·exact spec13_0
 exact natl14_ok x hx

def F318:E:=(.imp X82 (.cmp .eql X189 (.fn 6 (.pr (.fn 134 (.pr X2 (.int 8))) (.fn 135 (.pr X2 (.int 0)))))))
theorem G318:Tr F318:=ii1 fun ρ p0=>by
 have:=t117 p0
 have:=@t134 ρ X2
 have:=@t135_zero ρ X2 (.int 0)
 try simp only [smA,smW] at *
 have:=@fn0_nn ρ (.fn 1 (.pr X2 (.int 6)))
 have:=@fn0_nn ρ (.fn 1 (.pr X2 (.int 7)))
 have:=@fn0_nn ρ (.fn 1 (.pr X2 (.int 8)))
 have:=@fn0_nn ρ (.fn 1 (.pr X2 (.int 9)))
 have:=@fn0_nn ρ (.fn 1 (.pr X2 (.int 20)))
 have:=@fn0_nn ρ (.fn 1 (.pr X2 (.int 21)))
 have:=@fn0_nn ρ (.fn 1 (.pr X2 (.int 22)))
 have:=@fn0_nn ρ (.fn 1 (.pr X2 (.int 23)))
 obtain ⟨a10,ea10,qa10⟩:=cs_i64 ((0) + (E.I ρ (.fn 0 (.fn 1 (.pr X2 (.int 6))))))
 try simp only [ea10] at *
 obtain ⟨a11,ea11,qa11⟩:=cs_i64 (a10 + (E.I ρ (.fn 0 (.fn 1 (.pr X2 (.int 7))))))
 try simp only [ea11] at *
 obtain ⟨a12,ea12,qa12⟩:=cs_i64 (a11 + (E.I ρ (.fn 0 (.fn 1 (.pr X2 (.int 8))))))
 try simp only [ea12] at *
 obtain ⟨a13,ea13,qa13⟩:=cs_i64 (a12 + (E.I ρ (.fn 0 (.fn 1 (.pr X2 (.int 9))))))
 try simp only [ea13] at *
 obtain ⟨a14,ea14,qa14⟩:=cs_i64 (a13 + (E.I ρ (.fn 0 (.fn 1 (.pr X2 (.int 20))))))
 try simp only [ea14] at *
 obtain ⟨a15,ea15,qa15⟩:=cs_i64 (a14 + (E.I ρ (.fn 0 (.fn 1 (.pr X2 (.int 21))))))
 try simp only [ea15] at *
 obtain ⟨a16,ea16,qa16⟩:=cs_i64 (a15 + (E.I ρ (.fn 0 (.fn 1 (.pr X2 (.int 22))))))
 try simp only [ea16] at *
 obtain ⟨a17,ea17,qa17⟩:=cs_i64 (a16 + (E.I ρ (.fn 0 (.fn 1 (.pr X2 (.int 23))))))
 try simp only [ea17] at *
 grind
def F319:E:=(.imp X82 (.not (.cmp .lss X189 (.int 0))))
theorem G319:Tr F319:=ii1 fun ρ p0=>by
 have:=t117 p0
 try simp only [smA,smW] at *
 have:=@fn0_nn ρ (.fn 1 (.pr X2 (.int 6)))
 have:=@fn0_nn ρ (.fn 1 (.pr X2 (.int 7)))
 have:=@fn0_nn ρ (.fn 1 (.pr X2 (.int 8)))
 have:=@fn0_nn ρ (.fn 1 (.pr X2 (.int 9)))
 have:=@fn0_nn ρ (.fn 1 (.pr X2 (.int 20)))
 have:=@fn0_nn ρ (.fn 1 (.pr X2 (.int 21)))
 have:=@fn0_nn ρ (.fn 1 (.pr X2 (.int 22)))
 have:=@fn0_nn ρ (.fn 1 (.pr X2 (.int 23)))
 obtain ⟨a8,ea8,qa8⟩:=cs_i64 ((0) + (E.I ρ (.fn 0 (.fn 1 (.pr X2 (.int 6))))))
 try simp only [ea8] at *
 obtain ⟨a9,ea9,qa9⟩:=cs_i64 (a8 + (E.I ρ (.fn 0 (.fn 1 (.pr X2 (.int 7))))))
 try simp only [ea9] at *
 obtain ⟨a10,ea10,qa10⟩:=cs_i64 (a9 + (E.I ρ (.fn 0 (.fn 1 (.pr X2 (.int 8))))))
 try simp only [ea10] at *
 obtain ⟨a11,ea11,qa11⟩:=cs_i64 (a10 + (E.I ρ (.fn 0 (.fn 1 (.pr X2 (.int 9))))))
 try simp only [ea11] at *
 obtain ⟨a12,ea12,qa12⟩:=cs_i64 (a11 + (E.I ρ (.fn 0 (.fn 1 (.pr X2 (.int 20))))))
 try simp only [ea12] at *
 obtain ⟨a13,ea13,qa13⟩:=cs_i64 (a12 + (E.I ρ (.fn 0 (.fn 1 (.pr X2 (.int 21))))))
 try simp only [ea13] at *
 obtain ⟨a14,ea14,qa14⟩:=cs_i64 (a13 + (E.I ρ (.fn 0 (.fn 1 (.pr X2 (.int 22))))))
 try simp only [ea14] at *
 obtain ⟨a15,ea15,qa15⟩:=cs_i64 (a14 + (E.I ρ (.fn 0 (.fn 1 (.pr X2 (.int 23))))))
 try simp only [ea15] at *
 omega
def F320:E:=(.imp X82 (.not (.cmp .lss (.int 1600) X189)))
theorem G320:Tr F320:=ii1 fun ρ p0=>by
 have:=t117 p0
 try simp only [smA,smW] at *
 have:=@fn0_nn ρ (.fn 1 (.pr X2 (.int 6)))
 have:=@fn0_nn ρ (.fn 1 (.pr X2 (.int 7)))
 have:=@fn0_nn ρ (.fn 1 (.pr X2 (.int 8)))
 have:=@fn0_nn ρ (.fn 1 (.pr X2 (.int 9)))
 have:=@fn0_nn ρ (.fn 1 (.pr X2 (.int 20)))
 have:=@fn0_nn ρ (.fn 1 (.pr X2 (.int 21)))
 have:=@fn0_nn ρ (.fn 1 (.pr X2 (.int 22)))
 have:=@fn0_nn ρ (.fn 1 (.pr X2 (.int 23)))
 obtain ⟨a8,ea8,qa8⟩:=cs_i64 ((0) + (E.I ρ (.fn 0 (.fn 1 (.pr X2 (.int 6))))))
 try simp only [ea8] at *
 obtain ⟨a9,ea9,qa9⟩:=cs_i64 (a8 + (E.I ρ (.fn 0 (.fn 1 (.pr X2 (.int 7))))))
 try simp only [ea9] at *
 obtain ⟨a10,ea10,qa10⟩:=cs_i64 (a9 + (E.I ρ (.fn 0 (.fn 1 (.pr X2 (.int 8))))))
 try simp only [ea10] at *
 obtain ⟨a11,ea11,qa11⟩:=cs_i64 (a10 + (E.I ρ (.fn 0 (.fn 1 (.pr X2 (.int 9))))))
 try simp only [ea11] at *
 obtain ⟨a12,ea12,qa12⟩:=cs_i64 (a11 + (E.I ρ (.fn 0 (.fn 1 (.pr X2 (.int 20))))))
 try simp only [ea12] at *
 obtain ⟨a13,ea13,qa13⟩:=cs_i64 (a12 + (E.I ρ (.fn 0 (.fn 1 (.pr X2 (.int 21))))))
 try simp only [ea13] at *
 obtain ⟨a14,ea14,qa14⟩:=cs_i64 (a13 + (E.I ρ (.fn 0 (.fn 1 (.pr X2 (.int 22))))))
 try simp only [ea14] at *
 obtain ⟨a15,ea15,qa15⟩:=cs_i64 (a14 + (E.I ρ (.fn 0 (.fn 1 (.pr X2 (.int 23))))))
 try simp only [ea15] at *
 omega
def F321:E:=(.fn 123 (.pr X2 (.int 0)))
theorem G321:Tr F321:=fun ρ=>by
 unfold F321
 exact t123_zero (by (try simp only [sm_I_int]); omega)
def F322:E:=(.imp (.and X140 (.and X190 (.and X192 (.and (.not X193) X195)))) X196)
theorem G322:Tr F322:=ii6 fun ρ p0 p1 p2 p3 p4 p5=>by
 have:=@t_stR ρ (.fn 6 (.pr X139 (.int 1))) X2 X139 p4 (.fn 1 (.pr (.fn 1 (.pr X2 (.int 29))) (.fn 6 (.pr (.fn 8 (.pr X139 (.int 5))) (.int 1))))) (.fn 1 (.pr (.fn 1 (.pr X2 (.int 29))) (.fn 6 (.pr (.fn 8 (.pr X139 (.int 5))) (.int 2))))) (.fn 1 (.pr (.fn 1 (.pr X2 (.int 29))) (.fn 6 (.pr (.fn 8 (.pr X139 (.int 5))) (.int 3))))) X191 (.fn 1 (.pr (.fn 1 (.pr X2 (.int 0))) (.fn 6 (.pr (.fn 8 (.pr X191 (.int 12))) (.int 1))))) rfl rfl rfl rfl
 try simp only [smA,smW] at *
 grind
def F323:E:=(.imp (.and X140 (.and X190 (.and X192 (.and (.cmp .lss X191 (.int 0)) X195)))) X196)
theorem G323:Tr F323:=ii6 fun ρ p0 p1 p2 p3 p4 p5=>by
 have:=@t_stR ρ (.fn 6 (.pr X139 (.int 1))) X2 X139 p4 (.fn 1 (.pr (.fn 1 (.pr X2 (.int 29))) (.fn 6 (.pr (.fn 8 (.pr X139 (.int 5))) (.int 1))))) (.fn 1 (.pr (.fn 1 (.pr X2 (.int 29))) (.fn 6 (.pr (.fn 8 (.pr X139 (.int 5))) (.int 2))))) (.fn 1 (.pr (.fn 1 (.pr X2 (.int 29))) (.fn 6 (.pr (.fn 8 (.pr X139 (.int 5))) (.int 3))))) X191 (.fn 1 (.pr (.fn 1 (.pr X2 (.int 0))) (.fn 6 (.pr (.fn 8 (.pr X191 (.int 12))) (.int 1))))) rfl rfl rfl rfl
 try simp only [smA,smW] at *
 grind
def F324:E:=(.imp (.and (.not X140) (.and X197 X148)) (.cmp .eql X145 (.fn 6 (.pr (.fn 134 (.pr X2 (.int 8))) (.fn 135 (.pr X2 (.fn 9 (.pr (.fn 1 (.pr X2 (.int 29))) (.int 5)))))))))
theorem G324:Tr F324:=ii3 fun ρ p0 p1 p2=>by
 have:=@t135_eq ρ (.fn 9 (.pr (.fn 1 (.pr X2 (.int 29))) (.int 5))) X2 X139
 try simp only [smA,smW] at *
 grind
def F325:E:=(.imp (.and (.not X140) (.and X82 (.and X194 X151))) X198)
theorem G325:Tr F325:=ii5 fun ρ p0 p1 p2 p3 p4=>by
 have g0:E.I ρ (.fn 9 (.pr (.fn 1 (.pr X2 (.int 29))) (.int 5)))=E.I ρ X139:=by
  have hz2:=t117 p1
  have hz12:=t117 p4
  have hq0:0≤E.I ρ (.fn 9 (.pr (.fn 1 (.pr X2 (.int 29))) (.int 5))):=Int.natCast_nonneg _
  have hq1:0≤E.I ρ (.fn 9 (.pr (.fn 1 (.pr X2 (.int 0))) (.int 12))):=Int.natCast_nonneg _
  try simp only [smA,smW] at *
  omega
 exact t123_eq p2 g0
def F326:E:=(.imp (.and X140 (.and (.not X190) (.and X82 X199))) (.cmp .eql X145 (.fn 6 (.pr (.fn 134 (.pr X2 (.int 8))) (.fn 135 (.pr X2 X144))))))
theorem G326:Tr F326:=ii5 fun ρ p0 p1 p2 p3 p4=>by
 have:=t117 p2
 have:=@wrap_add ρ X139 (.int 1)
 have:=@t135_step ρ X144 X2 X139 (.fn 1 (.pr (.fn 1 (.pr X2 (.int 29))) (.fn 6 (.pr (.fn 8 (.pr X139 (.int 5))) (.int 3))))) rfl
 try simp only [smA,smW] at *
 grind
def F327:E:=(.imp (.and X140 (.and X190 X204)) (.cmp .eql X160 (.fn 6 (.pr (.fn 134 (.pr X2 (.int 8))) (.fn 135 (.pr X2 X144))))))
theorem G327:Tr F327:=ii7 fun ρ p0 p1 p2 p3 p4 p5 p6=>by
 have:=t117 p2
 have:=@wrap_add ρ X139 (.int 1)
 have:=@t135_step ρ X144 X2 X139 (.fn 1 (.pr (.fn 1 (.pr X2 (.int 29))) (.fn 6 (.pr (.fn 8 (.pr X139 (.int 5))) (.int 3))))) rfl
 try simp only [smA,smW] at *
 obtain ⟨a12,ea12,qa12⟩:=cs_i64 ((E.I ρ X145) + (1))
 try simp only [ea12] at *
 grind
def F328:E:=(.fn 124 (.pr X2 (.int 0)))
theorem G328:Tr F328:=fun ρ=>by
 unfold F328
 exact t124_zero (by (try simp only [sm_I_int]); omega)
def F329:E:=(.imp (.and X140 (.and X82 (.and X201 X199))) (.not (.cmp .lss (.fn 6 (.pr (.int 1600) X144)) X145)))
theorem G329:Tr F329:=ii5 fun ρ p0 p1 p2 p3 p4=>by
 have:=t117 p1
 try simp only [smA,smW] at *
 obtain ⟨a7,ea7,qa7⟩:=cs_i64 ((E.I ρ X139) + (1))
 try simp only [ea7] at *
 omega
def F330:E:=(.imp X205 (.not (.cmp .lss X160 (.int 0))))
theorem G330:Tr F330:=ii6 fun ρ p0 p1 p2 p3 p4 p5=>by
 have:=t117 p1
 try simp only [smA,smW] at *
 obtain ⟨a11,ea11,qa11⟩:=cs_i64 ((E.I ρ X145) + (1))
 try simp only [ea11] at *
 omega
def F331:E:=(.imp (.and X82 X209) (.not (.cmp .lss X210 (.int 0))))
theorem G331:Tr F331:=ii3 fun ρ p0 p1 p2=>by
 have:=t117 p0
 try simp only [smA,smW] at *
 obtain ⟨a5,ea5,qa5⟩:=cs_i64 ((E.I ρ X206) - (1))
 try simp only [ea5] at *
 omega
def F332:E:=(.imp (.and X212 X211) (.not (.cmp .lss (.fn 1 (.pr (.fn 1 (.pr X2 (.int 0))) (.fn 6 (.pr (.fn 8 (.pr X206 (.int 12))) (.int 2))))) (.int 0))))
theorem G332:Tr F332:=ii2 fun ρ p0 p1=>by
 have:=@z137 ρ (.fn 1 (.pr (.fn 1 (.pr X2 (.int 0))) (.fn 6 (.pr (.fn 8 (.pr X206 (.int 12))) (.int 0))))) (.fn 1 (.pr (.fn 1 (.pr X2 (.int 0))) (.fn 6 (.pr (.fn 8 (.pr X206 (.int 12))) (.int 1))))) (.fn 1 (.pr (.fn 1 (.pr X2 (.int 0))) (.fn 6 (.pr (.fn 8 (.pr X206 (.int 12))) (.int 2))))) (.fn 1 (.pr (.fn 1 (.pr X2 (.int 0))) (.fn 6 (.pr (.fn 8 (.pr X206 (.int 12))) (.int 3))))) (.fn 1 (.pr (.fn 1 (.pr X2 (.int 0))) (.fn 6 (.pr (.fn 8 (.pr X206 (.int 12))) (.int 4))))) (.fn 1 (.pr (.fn 1 (.pr X2 (.int 0))) (.fn 6 (.pr (.fn 8 (.pr X206 (.int 12))) (.int 5))))) (.fn 1 (.pr (.fn 1 (.pr X2 (.int 0))) (.fn 6 (.pr (.fn 8 (.pr X206 (.int 12))) (.int 6))))) (.fn 1 (.pr (.fn 1 (.pr X2 (.int 0))) (.fn 6 (.pr (.fn 8 (.pr X206 (.int 12))) (.int 7))))) (.fn 1 (.pr (.fn 1 (.pr X2 (.int 0))) (.fn 6 (.pr (.fn 8 (.pr X206 (.int 12))) (.int 8)))))
 try simp only [smA,smW] at *
 grind
def F333:E:=(.imp (.and (.not X207) (.and X213 (.and X198 (.and (.cmp .eql (.var 25) (.fn 6 (.pr (.fn 134 (.pr X2 (.int 8))) (.fn 135 (.pr X2 (.fn 9 (.pr (.fn 1 (.pr X2 (.int 29))) (.int 5)))))))) (.not (.cmp .lss (.fn 9 (.pr (.fn 1 (.pr X2 (.int 0))) (.int 12))) X206)))))) (.iff (.cmp .eql (.var 25) (.fn 9 (.pr (.fn 1 (.pr X2 (.int 0))) (.int 12)))) (.fn 125 X2)))
theorem G333:Tr F333:=ii5 fun ρ p0 p1 p2 p3 p4=>by
 have:=@t_found ρ X206 X2 (.var 25) p2 p1
 try simp only [smA,smW] at *
 grind
def F334:E:=(.imp (.and X140 (.and (.not X190) X214)) (.fn 123 (.pr X2 X144)))
theorem G334:Tr F334:=ii5 fun ρ p0 p1 p2 p3 p4=>by
 have:=t117 p2
 have:=@wrap_add ρ X139 (.int 1)
 have:=@t_stR ρ X144 X2 X139 p3 (.fn 1 (.pr (.fn 1 (.pr X2 (.int 29))) (.fn 6 (.pr (.fn 8 (.pr X139 (.int 5))) (.int 1))))) (.fn 1 (.pr (.fn 1 (.pr X2 (.int 29))) (.fn 6 (.pr (.fn 8 (.pr X139 (.int 5))) (.int 2))))) (.fn 1 (.pr (.fn 1 (.pr X2 (.int 29))) (.fn 6 (.pr (.fn 8 (.pr X139 (.int 5))) (.int 3))))) (.int 0) (.fn 1 (.pr (.fn 1 (.pr X2 (.int 0))) (.fn 6 (.pr (.fn 8 (.pr (.int 0) (.int 12))) (.int 1))))) rfl rfl rfl rfl
 try simp only [smA,smW] at *
 grind
def F335:E:=(.imp X205 (.not (.cmp .lss (.fn 6 (.pr (.int 1600) X144)) X160)))
theorem G335:Tr F335:=ii6 fun ρ p0 p1 p2 p3 p4 p5=>by
 have:=t117 p1
 try simp only [smA,smW] at *
 obtain ⟨a11,ea11,qa11⟩:=cs_i64 ((E.I ρ X139) + (1))
 try simp only [ea11] at *
 obtain ⟨a12,ea12,qa12⟩:=cs_i64 ((E.I ρ X145) + (1))
 try simp only [ea12] at *
 omega
def F336:E:=(.imp X209 (.cmp .lss X210 (.fn 9 (.pr (.fn 1 (.pr X2 (.int 0))) (.int 12)))))
theorem G336:Tr F336:=ii2 fun ρ p0 p1=>by
 try simp only [smA,smW] at *
 obtain ⟨a5,ea5,qa5⟩:=cs_i64 ((E.I ρ X206) - (1))
 try simp only [ea5] at *
 omega
def F337:E:=(.imp (.and X212 X211) (.not (.cmp .lss (.int 1) (.fn 1 (.pr (.fn 1 (.pr X2 (.int 0))) (.fn 6 (.pr (.fn 8 (.pr X206 (.int 12))) (.int 2))))))))
theorem G337:Tr F337:=ii2 fun ρ p0 p1=>by
 have:=@z137 ρ (.fn 1 (.pr (.fn 1 (.pr X2 (.int 0))) (.fn 6 (.pr (.fn 8 (.pr X206 (.int 12))) (.int 0))))) (.fn 1 (.pr (.fn 1 (.pr X2 (.int 0))) (.fn 6 (.pr (.fn 8 (.pr X206 (.int 12))) (.int 1))))) (.fn 1 (.pr (.fn 1 (.pr X2 (.int 0))) (.fn 6 (.pr (.fn 8 (.pr X206 (.int 12))) (.int 2))))) (.fn 1 (.pr (.fn 1 (.pr X2 (.int 0))) (.fn 6 (.pr (.fn 8 (.pr X206 (.int 12))) (.int 3))))) (.fn 1 (.pr (.fn 1 (.pr X2 (.int 0))) (.fn 6 (.pr (.fn 8 (.pr X206 (.int 12))) (.int 4))))) (.fn 1 (.pr (.fn 1 (.pr X2 (.int 0))) (.fn 6 (.pr (.fn 8 (.pr X206 (.int 12))) (.int 5))))) (.fn 1 (.pr (.fn 1 (.pr X2 (.int 0))) (.fn 6 (.pr (.fn 8 (.pr X206 (.int 12))) (.int 6))))) (.fn 1 (.pr (.fn 1 (.pr X2 (.int 0))) (.fn 6 (.pr (.fn 8 (.pr X206 (.int 12))) (.int 7))))) (.fn 1 (.pr (.fn 1 (.pr X2 (.int 0))) (.fn 6 (.pr (.fn 8 (.pr X206 (.int 12))) (.int 8)))))
 try simp only [smA,smW] at *
 grind
def F338:E:=(.imp (.and X140 (.and X190 (.and X192 (.and (.not (.cmp .lss X191 (.int 0))) (.and X193 X214))))) (.fn 123 (.pr X2 X144)))
theorem G338:Tr F338:=ii8 fun ρ p0 p1 p2 p3 p4 p5 p6 p7=>by
 have:=t117 p5
 have:=@wrap_add ρ X139 (.int 1)
 have:=@t_stR ρ X144 X2 X139 p6 (.fn 1 (.pr (.fn 1 (.pr X2 (.int 29))) (.fn 6 (.pr (.fn 8 (.pr X139 (.int 5))) (.int 1))))) (.fn 1 (.pr (.fn 1 (.pr X2 (.int 29))) (.fn 6 (.pr (.fn 8 (.pr X139 (.int 5))) (.int 2))))) (.fn 1 (.pr (.fn 1 (.pr X2 (.int 29))) (.fn 6 (.pr (.fn 8 (.pr X139 (.int 5))) (.int 3))))) X191 (.fn 1 (.pr (.fn 1 (.pr X2 (.int 0))) (.fn 6 (.pr (.fn 8 (.pr X191 (.int 12))) (.int 1))))) rfl rfl rfl rfl
 try simp only [smA,smW] at *
 grind
def F339:E:=(.imp (.and X207 (.and X212 (.and X211 (.and X215 (.and X216 (.and (.not X217) X220)))))) X196)
theorem G339:Tr F339:=ii8 fun ρ p0 p1 p2 p3 p4 p5 p6 p7=>by
 have:=@wrap_sub ρ X206 (.int 1)
 have:=@t_obR10 ρ X206 (.fn 6 (.pr X206 (.int 1))) X2 p6 X210 (.fn 1 (.pr (.fn 1 (.pr X2 (.int 0))) (.fn 6 (.pr (.fn 8 (.pr X206 (.int 12))) (.int 0))))) (.fn 1 (.pr (.fn 1 (.pr X2 (.int 0))) (.fn 6 (.pr (.fn 8 (.pr X206 (.int 12))) (.int 1))))) (.fn 1 (.pr (.fn 1 (.pr X2 (.int 0))) (.fn 6 (.pr (.fn 8 (.pr X206 (.int 12))) (.int 2))))) (.fn 1 (.pr (.fn 1 (.pr X2 (.int 0))) (.fn 6 (.pr (.fn 8 (.pr X206 (.int 12))) (.int 3))))) (.fn 1 (.pr (.fn 1 (.pr X2 (.int 0))) (.fn 6 (.pr (.fn 8 (.pr X206 (.int 12))) (.int 4))))) (.fn 1 (.pr (.fn 1 (.pr X2 (.int 0))) (.fn 6 (.pr (.fn 8 (.pr X206 (.int 12))) (.int 5))))) (.fn 1 (.pr (.fn 1 (.pr X2 (.int 0))) (.fn 6 (.pr (.fn 8 (.pr X206 (.int 12))) (.int 6))))) (.fn 1 (.pr (.fn 1 (.pr X2 (.int 0))) (.fn 6 (.pr (.fn 8 (.pr X206 (.int 12))) (.int 7))))) (.fn 1 (.pr (.fn 1 (.pr X2 (.int 0))) (.fn 6 (.pr (.fn 8 (.pr X206 (.int 12))) (.int 8))))) rfl rfl rfl rfl rfl rfl rfl rfl rfl
 try simp only [smA,smW] at *
 grind
def F340:E:=(.imp X221 (.not (.cmp .lss X222 (.int 0))))
theorem G340:Tr F340:=ii2 fun ρ p0 p1=>by
 try simp only [smA,smW] at *
 obtain ⟨a7,ea7,qa7⟩:=cs_i64 ((E.I ρ X206) + (1))
 try simp only [ea7] at *
 omega
def F341:E:=(.imp (.and X207 (.and X212 (.and X211 (.and X208 (.and X223 (.and X216 (.and (.not X217) X224))))))) X196)
theorem G341:Tr F341:=ii10 fun ρ p0 p1 p2 p3 p4 p5 p6 p7 p8 p9=>by
 have:=t117 p9
 have:=@wrap_sub ρ X206 (.int 1)
 have:=@t_obR10 ρ X206 (.fn 6 (.pr X206 (.int 1))) X2 p7 X210 (.fn 1 (.pr (.fn 1 (.pr X2 (.int 0))) (.fn 6 (.pr (.fn 8 (.pr X206 (.int 12))) (.int 0))))) (.fn 1 (.pr (.fn 1 (.pr X2 (.int 0))) (.fn 6 (.pr (.fn 8 (.pr X206 (.int 12))) (.int 1))))) (.fn 1 (.pr (.fn 1 (.pr X2 (.int 0))) (.fn 6 (.pr (.fn 8 (.pr X206 (.int 12))) (.int 2))))) (.fn 1 (.pr (.fn 1 (.pr X2 (.int 0))) (.fn 6 (.pr (.fn 8 (.pr X206 (.int 12))) (.int 3))))) (.fn 1 (.pr (.fn 1 (.pr X2 (.int 0))) (.fn 6 (.pr (.fn 8 (.pr X206 (.int 12))) (.int 4))))) (.fn 1 (.pr (.fn 1 (.pr X2 (.int 0))) (.fn 6 (.pr (.fn 8 (.pr X206 (.int 12))) (.int 5))))) (.fn 1 (.pr (.fn 1 (.pr X2 (.int 0))) (.fn 6 (.pr (.fn 8 (.pr X206 (.int 12))) (.int 6))))) (.fn 1 (.pr (.fn 1 (.pr X2 (.int 0))) (.fn 6 (.pr (.fn 8 (.pr X206 (.int 12))) (.int 7))))) (.fn 1 (.pr (.fn 1 (.pr X2 (.int 0))) (.fn 6 (.pr (.fn 8 (.pr X206 (.int 12))) (.int 8))))) rfl rfl rfl rfl rfl rfl rfl rfl rfl
 try simp only [smA,smW] at *
 grind
def F342:E:=(.imp (.and X82 X209) (.not (.cmp .lss X222 (.int 0))))
theorem G342:Tr F342:=ii3 fun ρ p0 p1 p2=>by
 have:=t117 p0
 try simp only [smA,smW] at *
 obtain ⟨a9,ea9,qa9⟩:=cs_i64 ((E.I ρ X206) + (1))
 try simp only [ea9] at *
 omega
def F343:E:=(.imp (.and X207 (.and X212 (.and X211 (.and X208 (.and (.not X223) X224))))) X196)
theorem G343:Tr F343:=ii8 fun ρ p0 p1 p2 p3 p4 p5 p6 p7=>by
 have:=t117 p7
 have:=@wrap_sub ρ X206 (.int 1)
 have:=@t_obR10 ρ X206 (.fn 6 (.pr X206 (.int 1))) X2 p5 X210 (.fn 1 (.pr (.fn 1 (.pr X2 (.int 0))) (.fn 6 (.pr (.fn 8 (.pr X206 (.int 12))) (.int 0))))) (.fn 1 (.pr (.fn 1 (.pr X2 (.int 0))) (.fn 6 (.pr (.fn 8 (.pr X206 (.int 12))) (.int 1))))) (.fn 1 (.pr (.fn 1 (.pr X2 (.int 0))) (.fn 6 (.pr (.fn 8 (.pr X206 (.int 12))) (.int 2))))) (.fn 1 (.pr (.fn 1 (.pr X2 (.int 0))) (.fn 6 (.pr (.fn 8 (.pr X206 (.int 12))) (.int 3))))) (.fn 1 (.pr (.fn 1 (.pr X2 (.int 0))) (.fn 6 (.pr (.fn 8 (.pr X206 (.int 12))) (.int 4))))) (.fn 1 (.pr (.fn 1 (.pr X2 (.int 0))) (.fn 6 (.pr (.fn 8 (.pr X206 (.int 12))) (.int 5))))) (.fn 1 (.pr (.fn 1 (.pr X2 (.int 0))) (.fn 6 (.pr (.fn 8 (.pr X206 (.int 12))) (.int 6))))) (.fn 1 (.pr (.fn 1 (.pr X2 (.int 0))) (.fn 6 (.pr (.fn 8 (.pr X206 (.int 12))) (.int 7))))) (.fn 1 (.pr (.fn 1 (.pr X2 (.int 0))) (.fn 6 (.pr (.fn 8 (.pr X206 (.int 12))) (.int 8))))) rfl rfl rfl rfl rfl rfl rfl rfl rfl
 try simp only [smA,smW] at *
 grind
def F344:E:=(.imp (.and X207 (.and X212 (.and (.not X211) X224))) X196)
theorem G344:Tr F344:=ii6 fun ρ p0 p1 p2 p3 p4 p5=>by
 have:=t117 p5
 have:=@wrap_sub ρ X206 (.int 1)
 have:=@t_obR10 ρ X206 (.fn 6 (.pr X206 (.int 1))) X2 p3 X210 (.fn 1 (.pr (.fn 1 (.pr X2 (.int 0))) (.fn 6 (.pr (.fn 8 (.pr X206 (.int 12))) (.int 0))))) (.fn 1 (.pr (.fn 1 (.pr X2 (.int 0))) (.fn 6 (.pr (.fn 8 (.pr X206 (.int 12))) (.int 1))))) (.fn 1 (.pr (.fn 1 (.pr X2 (.int 0))) (.fn 6 (.pr (.fn 8 (.pr X206 (.int 12))) (.int 2))))) (.fn 1 (.pr (.fn 1 (.pr X2 (.int 0))) (.fn 6 (.pr (.fn 8 (.pr X206 (.int 12))) (.int 3))))) (.fn 1 (.pr (.fn 1 (.pr X2 (.int 0))) (.fn 6 (.pr (.fn 8 (.pr X206 (.int 12))) (.int 4))))) (.fn 1 (.pr (.fn 1 (.pr X2 (.int 0))) (.fn 6 (.pr (.fn 8 (.pr X206 (.int 12))) (.int 5))))) (.fn 1 (.pr (.fn 1 (.pr X2 (.int 0))) (.fn 6 (.pr (.fn 8 (.pr X206 (.int 12))) (.int 6))))) (.fn 1 (.pr (.fn 1 (.pr X2 (.int 0))) (.fn 6 (.pr (.fn 8 (.pr X206 (.int 12))) (.int 7))))) (.fn 1 (.pr (.fn 1 (.pr X2 (.int 0))) (.fn 6 (.pr (.fn 8 (.pr X206 (.int 12))) (.int 8))))) rfl rfl rfl rfl rfl rfl rfl rfl rfl
 try simp only [smA,smW] at *
 grind
def F345:E:=(.imp X225 X227)
theorem G345:Tr F345:=ii3 fun ρ p0 p1 p2=>by
 try simp only [smA,smW] at *
 obtain ⟨a7,ea7,qa7⟩:=cs_i64 ((E.I ρ X206) + (1))
 try simp only [ea7] at *
 omega
def F346:E:=(.imp X209 X227)
theorem G346:Tr F346:=ii2 fun ρ p0 p1=>by
 try simp only [smA,smW] at *
 obtain ⟨a9,ea9,qa9⟩:=cs_i64 ((E.I ρ X206) + (1))
 try simp only [ea9] at *
 omega
def F347:E:=(.imp (.and X207 (.and X212 (.and X211 (.and X215 (.and X216 (.and X217 X220)))))) (.fn 124 (.pr X2 X222)))
theorem G347:Tr F347:=ii8 fun ρ p0 p1 p2 p3 p4 p5 p6 p7=>by
 have:=@wrap_add ρ X206 (.int 1)
 have:=@wrap_sub ρ X206 (.int 1)
 have:=@t_obR10 ρ X206 X222 X2 p6 X210 (.fn 1 (.pr (.fn 1 (.pr X2 (.int 0))) (.fn 6 (.pr (.fn 8 (.pr X206 (.int 12))) (.int 0))))) (.fn 1 (.pr (.fn 1 (.pr X2 (.int 0))) (.fn 6 (.pr (.fn 8 (.pr X206 (.int 12))) (.int 1))))) (.fn 1 (.pr (.fn 1 (.pr X2 (.int 0))) (.fn 6 (.pr (.fn 8 (.pr X206 (.int 12))) (.int 2))))) (.fn 1 (.pr (.fn 1 (.pr X2 (.int 0))) (.fn 6 (.pr (.fn 8 (.pr X206 (.int 12))) (.int 3))))) (.fn 1 (.pr (.fn 1 (.pr X2 (.int 0))) (.fn 6 (.pr (.fn 8 (.pr X206 (.int 12))) (.int 4))))) (.fn 1 (.pr (.fn 1 (.pr X2 (.int 0))) (.fn 6 (.pr (.fn 8 (.pr X206 (.int 12))) (.int 5))))) (.fn 1 (.pr (.fn 1 (.pr X2 (.int 0))) (.fn 6 (.pr (.fn 8 (.pr X206 (.int 12))) (.int 6))))) (.fn 1 (.pr (.fn 1 (.pr X2 (.int 0))) (.fn 6 (.pr (.fn 8 (.pr X206 (.int 12))) (.int 7))))) (.fn 1 (.pr (.fn 1 (.pr X2 (.int 0))) (.fn 6 (.pr (.fn 8 (.pr X206 (.int 12))) (.int 8))))) rfl rfl rfl rfl rfl rfl rfl rfl rfl
 try simp only [smA,smW] at *
 grind
def F348:E:=(.imp (.and X207 (.and X212 (.and X211 (.and X208 (.and X223 (.and X216 (.and X217 X224))))))) (.fn 124 (.pr X2 X222)))
theorem G348:Tr F348:=ii10 fun ρ p0 p1 p2 p3 p4 p5 p6 p7 p8 p9=>by
 have:=t117 p9
 have:=@wrap_sub ρ X206 (.int 1)
 have:=@wrap_add ρ X206 (.int 1)
 have:=@t_obR10 ρ X206 X222 X2 p7 X210 (.fn 1 (.pr (.fn 1 (.pr X2 (.int 0))) (.fn 6 (.pr (.fn 8 (.pr X206 (.int 12))) (.int 0))))) (.fn 1 (.pr (.fn 1 (.pr X2 (.int 0))) (.fn 6 (.pr (.fn 8 (.pr X206 (.int 12))) (.int 1))))) (.fn 1 (.pr (.fn 1 (.pr X2 (.int 0))) (.fn 6 (.pr (.fn 8 (.pr X206 (.int 12))) (.int 2))))) (.fn 1 (.pr (.fn 1 (.pr X2 (.int 0))) (.fn 6 (.pr (.fn 8 (.pr X206 (.int 12))) (.int 3))))) (.fn 1 (.pr (.fn 1 (.pr X2 (.int 0))) (.fn 6 (.pr (.fn 8 (.pr X206 (.int 12))) (.int 4))))) (.fn 1 (.pr (.fn 1 (.pr X2 (.int 0))) (.fn 6 (.pr (.fn 8 (.pr X206 (.int 12))) (.int 5))))) (.fn 1 (.pr (.fn 1 (.pr X2 (.int 0))) (.fn 6 (.pr (.fn 8 (.pr X206 (.int 12))) (.int 6))))) (.fn 1 (.pr (.fn 1 (.pr X2 (.int 0))) (.fn 6 (.pr (.fn 8 (.pr X206 (.int 12))) (.int 7))))) (.fn 1 (.pr (.fn 1 (.pr X2 (.int 0))) (.fn 6 (.pr (.fn 8 (.pr X206 (.int 12))) (.int 8))))) rfl rfl rfl rfl rfl rfl rfl rfl rfl
 try simp only [smA,smW] at *
 grind
def F349:E:=(.imp X221 X228)
theorem G349:Tr F349:=ii2 fun ρ p0 p1=>by
 try simp only [smA,smW] at *
 obtain ⟨a7,ea7,qa7⟩:=cs_i64 ((E.I ρ X206) + (1))
 try simp only [ea7] at *
 omega
def F350:E:=(.imp (.and X82 X209) X228)
theorem G350:Tr F350:=ii3 fun ρ p0 p1 p2=>by
 have:=t117 p0
 try simp only [smA,smW] at *
 obtain ⟨a9,ea9,qa9⟩:=cs_i64 ((E.I ρ X206) + (1))
 try simp only [ea9] at *
 omega
def F351:E:=(.imp X225 X230)
theorem G351:Tr F351:=ii3 fun ρ p0 p1 p2=>by
 try simp only [smA,smW] at *
 obtain ⟨a7,ea7,qa7⟩:=cs_i64 ((E.I ρ X206) + (1))
 try simp only [ea7] at *
 omega
def F352:E:=(.imp X209 X230)
theorem G352:Tr F352:=ii2 fun ρ p0 p1=>by
 try simp only [smA,smW] at *
 obtain ⟨a9,ea9,qa9⟩:=cs_i64 ((E.I ρ X206) + (1))
 try simp only [ea9] at *
 omega
namespace p14
def facts:List E:=[F80,F105,F318,F319,F320,F321,F291,F322,F323,F324,F293,F325,F326,F327,F328,F329,F330,F331,F332,F333,F334,F335,F336,F337,F302,F338,F303,F339,F340,F341,F342,F343,F344,F345,F346,F347,F348,F349,F350,F351,F352]
theorem facts_ok:∀ e∈facts,Tr e:=(ac G80 (ac G105 (ac G318 (ac G319 (ac G320 (ac G321 (ac G291 (ac G322 (ac G323 (ac G324 (ac G293 (ac G325 (ac G326 (ac G327 (ac G328 (ac G329 (ac G330 (ac G331 (ac G332 (ac G333 (ac G334 (ac G335 (ac G336 (ac G337 (ac G302 (ac G338 (ac G303 (ac G339 (ac G340 (ac G341 (ac G342 (ac G343 (ac G344 (ac G345 (ac G346 (ac G347 (ac G348 (ac G349 (ac G350 (ac G351 (ac G352 all_nil)))))))))))))))))))))))))))))))))))))))))
end p14
theorem spec14_0:NatOk Try.prog (specNat (spFd)) :=
 spec_of_check good (facts:=p14.facts) p14.facts_ok (anns:=annFd) (plainAnns_ok _ (by kernel_rfl)) (nats:=natl15) natl15_ok (n:=3000) (by kernel_rfl)
def natl16:List Nat1:=specNat (spFd)::natl15
theorem natl16_ok:∀ x∈natl16,NatOk Try.prog x:=by
 intro x hx
 rcases List.mem_cons.1 hx with rfl | hx
 ·exact spec14_0
 exact natl15_ok x hx

end
end Go.Proofs.Ytoicbojdnjcmiaa.viewHidden
