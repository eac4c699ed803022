/-
  PaySources: one reckoning by the kernel, over contracts of functions and facts.
-/
import Derived.Test.YtnnbmcfabojjjaaRows
import Derived.Test.YtnnbmcfabojjjaaTheory
import Derived.WalkKit
import Derived.ProofKit
import Derived.OpenShut
import Derived.ChangeOld
import Derived.Below
import Derived.KernelRfl
import Derived.Lib.SmallJoins
import Derived.Test.YtnnbmcfabojjjaaPaySourcesPartf
namespace Go.Proofs.Ytnnbmcfabojjjaa.paySources
open Go.ChangeShapes Go.WideShapes Go.ChangeAt Go.RowKit
open Go.SX
set_option linter.unusedVariables false
set_option linter.unusedSimpArgs false
set_option maxRecDepth 100000
noncomputable section
abbrev N0:E:=.var 1
abbrev N1:E:=.var 2
abbrev N2:E:=.not (.cmp .lss (.fn 120 (.pr N0 (.pr N1 (.fn 9 (.pr (.fn 1 (.pr N0 (.int 0))) (.int 12)))))) (.int 0))
abbrev N3:E:=.var 3
abbrev N4:E:=.cmp .eql N3 (.fn 120 (.pr N0 (.pr N1 (.fn 9 (.pr (.fn 1 (.pr N0 (.int 0))) (.int 12))))))
abbrev N5:E:=.cmp .lss (.fn 1 (.pr (.fn 1 (.pr N0 (.int 0))) (.fn 6 (.pr (.fn 8 (.pr N3 (.int 12))) (.int 1))))) (.int 0)
abbrev N6:E:=.var 0
abbrev N7:E:=.cmp .lss (.fn 1 (.pr (.fn 1 (.pr N0 (.int 0))) (.fn 6 (.pr (.fn 8 (.pr N3 (.int 12))) (.int 1))))) (.fn 9 (.pr N6 (.int 14)))
abbrev N8:E:=.cmp .eql (.fn 150 (.pr N6 (.pr N0 N1))) (.int (-1))
abbrev N9:E:=.cmp .eql (.fn 1 (.pr N6 (.fn 6 (.pr (.fn 8 (.pr (.fn 1 (.pr (.fn 1 (.pr N0 (.int 0))) (.fn 6 (.pr (.fn 8 (.pr N3 (.int 12))) (.int 1))))) (.int 14))) (.int 1))))) (.int 1)
abbrev N10:E:=.cmp .lss (.fn 1 (.pr N6 (.fn 6 (.pr (.fn 8 (.pr (.fn 1 (.pr (.fn 1 (.pr N0 (.int 0))) (.fn 6 (.pr (.fn 8 (.pr N3 (.int 12))) (.int 1))))) (.int 14))) (.int 7))))) (.int 0)
abbrev N11:E:=.cmp .lss (.fn 1 (.pr N6 (.fn 6 (.pr (.fn 8 (.pr (.fn 1 (.pr (.fn 1 (.pr N0 (.int 0))) (.fn 6 (.pr (.fn 8 (.pr N3 (.int 12))) (.int 1))))) (.int 14))) (.int 7))))) (.int 4)
abbrev N12:E:=.var 11
abbrev N13:E:=.cmp .eql N12 (.int 0)
abbrev N14:E:=.ar .add .i64 N12 (.int 1)
abbrev N15:E:=.cmp .lss N14 (.int 1)
abbrev N16:E:=.not N15
abbrev N17:E:=.not (.cmp .lss (.int 60) N0)
abbrev N18:E:=.cmp .eql (.fn 0 N6) N0
abbrev N19:E:=.not (.cmp .lss N0 (.int 1))
abbrev N20:E:=.and N13 (.and N17 (.and N18 N19))
abbrev N21:E:=.cmp .lss N12 N0
abbrev N22:E:=.var 9
abbrev N23:E:=.cmp .eql N22 N12
abbrev N24:E:=.cmp .lss N12 (.int 1)
abbrev N25:E:=.not N24
abbrev N26:E:=.and N23 N25
abbrev N27:E:=.and N21 (.and N13 (.and N17 N18))
abbrev N28:E:=.cmp .lss N0 N14
abbrev N29:E:=.not N28
abbrev N30:E:=.var 16
abbrev N31:E:=.cmp .lss N30 N22
abbrev N32:E:=.not N31
abbrev N33:E:=.not (.cmp .lss N22 N30)
abbrev N34:E:=.cmp .lss (.fn 7 (.pr N22 N30)) (.int 0)
abbrev N35:E:=.not N34
abbrev N36:E:=.not (.cmp .lss N30 (.int 0))
abbrev N37:E:=.var 8
abbrev N38:E:=.cmp .eql (.fn 0 N37) N22
abbrev N39:E:=.and N38 N23
abbrev N40:E:=.and N31 (.and N21 (.and N17 (.and N18 (.and N19 (.and N36 N39)))))
abbrev N41:E:=.ar .add .i64 N30 (.int 1)
abbrev N42:E:=.cmp .lss N41 (.int 0)
abbrev N43:E:=.not N42
abbrev N44:E:=.pr N37 (.pr N6 N12)
abbrev N45:E:=.fn 152 N44
abbrev N46:E:=.pr N6 N14
abbrev N47:E:=.pr (.fn 23 (.pr (.fn 1 (.pr N6 N12)) (.fn 10 (.int 0)))) N46
abbrev N48:E:=.fn 152 N47
abbrev N49:E:=.cmp .lss (.int 2147483648) (.fn 6 (.pr (.fn 7 (.pr N22 N30)) (.int 1)))
abbrev N50:E:=.not N49
abbrev N51:E:=.cmp .lss (.fn 1 (.pr N37 N30)) (.fn 1 (.pr N6 N12))
abbrev N52:E:=.pr (.fn 1 (.pr N6 N12)) N30
abbrev N53:E:=.pr N37 N52
abbrev N54:E:=.fn 160 N53
abbrev N55:E:=.cmp .lss (.fn 7 (.pr N0 N14)) (.fn 7 (.pr N0 N12))
abbrev N56:E:=.var 10
abbrev N57:E:=.and N38 (.not (.cmp .lss N56 N22))
abbrev N58:E:=.not (.cmp .lss N56 N30)
abbrev N59:E:=.cmp .eql N56 N30
abbrev N60:E:=.not (.cmp .lss (.fn 7 (.pr N0 N14)) (.int 0))
abbrev N61:E:=.and N18 (.and N19 (.and N33 N39))
abbrev N62:E:=.and N17 N61
abbrev N63:E:=.and N21 N62
abbrev N64:E:=.not (.cmp .lss (.int 2147483648) N30)
abbrev N65:E:=.and N19 N39
abbrev N66:E:=.and N18 N65
abbrev N67:E:=.and N17 N66
abbrev N68:E:=.and N21 N67
abbrev N69:E:=.cmp .lss (.fn 6 (.pr (.fn 7 (.pr N22 N30)) (.int 1))) (.int 0)
abbrev N70:E:=.not N69
abbrev N71:E:=.cmp .eql N30 (.int 0)
abbrev N72:E:=.cmp .eql (.fn 6 (.pr (.fn 7 (.pr N22 N30)) (.int 1))) (.int 0)
abbrev N73:E:=.and N71 (.and N72 N33)
abbrev N74:E:=.and N32 (.and N71 (.and N33 N26))
abbrev N75:E:=.cmp .lss (.int 0) (.fn 6 (.pr (.fn 7 (.pr N22 N30)) (.int 1)))
abbrev N76:E:=.and N31 (.and N71 N72)
abbrev N77:E:=.and N18 (.and N19 N26)
abbrev N78:E:=.and N17 N77
abbrev N79:E:=.and N21 N78
abbrev N80:E:=.and N71 N68
abbrev N81:E:=.and N31 N80
abbrev N82:E:=.and N33 (.and N38 N26)
abbrev N83:E:=.and N71 (.and N21 (.and N18 N39))
abbrev N84:E:=.and N31 N83
abbrev N85:E:=.cmp .eql (.fn 6 (.pr (.fn 7 (.pr N22 N30)) (.int 1))) N14
abbrev N86:E:=.cmp .eql (.fn 6 (.pr (.fn 0 (.fn 4 (.pr N37 (.pr N30 (.fn 6 (.pr N30 (.fn 7 (.pr N22 N30)))))))) (.int 1))) (.fn 6 (.pr (.fn 7 (.pr N22 N30)) (.int 1)))
abbrev N87:E:=.cmp .eql (.fn 6 (.pr (.fn 0 (.fn 4 (.pr N37 (.pr (.int 0) N30)))) (.fn 6 (.pr (.fn 0 (.fn 4 (.pr N37 (.pr N30 (.fn 6 (.pr N30 (.fn 7 (.pr N22 N30)))))))) (.int 1))))) (.fn 6 (.pr N30 (.fn 6 (.pr (.fn 7 (.pr N22 N30)) (.int 1)))))
abbrev N88:E:=.and N38 N25
abbrev N89:E:=.and N45 N88
abbrev N90:E:=.and N36 N89
abbrev N91:E:=.and N33 N90
abbrev N92:E:=.and N54 N91
abbrev N93:E:=.and N18 N92
abbrev N94:E:=.and N17 N93
abbrev N95:E:=.and N21 N94
abbrev N96:E:=.and N32 N95
abbrev N97:E:=.pr (.fn 3 (.pr (.fn 23 (.pr (.fn 1 (.pr N6 N12)) (.fn 10 (.int 0)))) (.fn 4 (.pr N37 (.pr N30 (.fn 6 (.pr N30 (.fn 7 (.pr N22 N30))))))))) N46
abbrev N98:E:=.fn 152 N97
abbrev N99:E:=.pr (.fn 3 (.pr (.fn 4 (.pr N37 (.pr (.int 0) N30))) (.fn 3 (.pr (.fn 23 (.pr (.fn 1 (.pr N6 N12)) (.fn 10 (.int 0)))) (.fn 4 (.pr N37 (.pr N30 (.fn 6 (.pr N30 (.fn 7 (.pr N22 N30))))))))))) N46
abbrev N100:E:=.fn 152 N99
abbrev N101:E:=.and N45 N39
abbrev N102:E:=.and N36 N101
abbrev N103:E:=.and N54 N102
abbrev N104:E:=.and N18 N103
abbrev N105:E:=.and N17 N104
abbrev N106:E:=.and N21 N105
abbrev N107:E:=.cmp .eql N1 (.int 0)
abbrev N108:E:=.fn 117 N0
abbrev N109:E:=.pr N1 (.int 2)
abbrev N110:E:=.pr N0 N109
abbrev N111:E:=.pr N6 (.pr N0 (.pr N1 (.int 0)))
abbrev N112:E:=.var 20
abbrev N113:E:=.var 19
abbrev N114:E:=.cmp .lss N112 (.fn 0 N113)
abbrev N115:E:=.not (.cmp .lss N112 (.int 0))
abbrev N116:E:=.pr N113 N110
abbrev N117:E:=.fn 109 N116
abbrev N118:E:=.fn 145 (.pr N0 N1)
abbrev N119:E:=.and N117 N118
abbrev N120:E:=.cmp .lss (.fn 120 (.pr N0 (.pr (.fn 1 (.pr N113 N112)) (.fn 9 (.pr (.fn 1 (.pr N0 (.int 0))) (.int 12)))))) (.int 0)
abbrev N121:E:=.not N120
abbrev N122:E:=.pr N1 N112
abbrev N123:E:=.pr N0 N122
abbrev N124:E:=.pr N6 N123
abbrev N125:E:=.pr (.fn 10 (.int 0)) N124
abbrev N126:E:=.fn 151 N125
abbrev N127:E:=.pr (.fn 10 (.int 0)) (.pr N6 (.pr N0 N1))
abbrev N128:E:=.fn 144 N127
abbrev N129:E:=.var 17
abbrev N130:E:=.not (.cmp .lss N112 N129)
abbrev N131:E:=.not (.cmp .lss N129 (.int 1))
abbrev N132:E:=.cmp .eql (.fn 0 N30) N129
abbrev N133:E:=.cmp .lss (.fn 0 N113) N112
abbrev N134:E:=.not N133
abbrev N135:E:=.not (.cmp .lss (.int 40) (.fn 0 N113))
abbrev N136:E:=.and N115 N135
abbrev N137:E:=.var 22
abbrev N138:E:=.cmp .eql N137 (.fn 120 (.pr N0 (.pr (.fn 1 (.pr N113 N112)) (.fn 9 (.pr (.fn 1 (.pr N0 (.int 0))) (.int 12))))))
abbrev N139:E:=.and N114 N136
abbrev N140:E:=.ar .add .i64 N112 (.int 1)
abbrev N141:E:=.var 18
abbrev N142:E:=.and N114 (.and N130 (.and N131 N135))
abbrev N143:E:=.and N134 N135
abbrev N144:E:=.and N131 N143
abbrev N145:E:=.and N130 N144
abbrev N146:E:=.and N114 N145
abbrev N147:E:=.var 21
abbrev N148:E:=.pr N30 N124
abbrev N149:E:=.fn 151 N148
abbrev N150:E:=.cmp .eql N147 (.fn 150 (.pr N6 (.pr N0 (.fn 1 (.pr N113 N112)))))
abbrev N151:E:=.cmp .lss N147 (.int 0)
abbrev N152:E:=.and N135 N117
abbrev N153:E:=.and N115 N152
abbrev N154:E:=.pr N1 N140
abbrev N155:E:=.pr N0 N154
abbrev N156:E:=.pr N6 N155
abbrev N157:E:=.pr (.fn 10 (.int 0)) N156
abbrev N158:E:=.fn 151 N157
abbrev N159:E:=.and N135 N119
abbrev N160:E:=.cmp .lss (.fn 7 (.pr (.fn 0 N113) N140)) (.fn 7 (.pr (.fn 0 N113) N112))
abbrev N161:E:=.not (.fn 1 (.pr (.fn 1 (.pr N0 (.int 0))) (.fn 6 (.pr (.fn 8 (.pr N137 (.int 12))) (.int 9)))))
abbrev N162:E:=.pr N30 N156
abbrev N163:E:=.fn 151 N162
abbrev N164:E:=.and N130 (.and N131 N159)
abbrev N165:E:=.and N149 N164
abbrev N166:E:=.cmp .lss (.fn 7 (.pr (.fn 0 N113) N140)) (.int 0)
abbrev N167:E:=.not N166
abbrev N168:E:=.var 23
abbrev N169:E:=.pr N0 (.pr N1 N168)
abbrev N170:E:=.pr N6 N169
abbrev N171:E:=.pr N113 N170
abbrev N172:E:=.pr N141 N171
abbrev N173:E:=.pr N129 N172
abbrev N174:E:=.pr N30 N173
abbrev N175:E:=.fn 147 N174
abbrev N176:E:=.and N175 N108
abbrev N177:E:=.pr N6 (.pr N0 (.pr N1 (.int 30)))
abbrev N178:E:=.pr N30 (.pr N129 (.pr N141 (.pr N113 N177)))
abbrev N179:E:=.fn 147 N178
abbrev N180:E:=.cmp .lss N168 N147
abbrev N181:E:=.fn 144 (.pr N112 (.pr N6 (.pr N0 N1)))
abbrev N182:E:=.cmp .eql (.fn 0 N112) N147
abbrev N183:E:=.cmp .lss N168 (.int 0)
abbrev N184:E:=.not N183
abbrev N185:E:=.and N184 N118
abbrev N186:E:=.and N182 N185
abbrev N187:E:=.and N181 N186
abbrev N188:E:=.and N182 N184
abbrev N189:E:=.and N180 N188
abbrev N190:E:=.and N108 N189
abbrev N191:E:=.and N181 N190
abbrev N192:E:=.ar .add .i64 N168 (.int 1)
abbrev N193:E:=.var 24
abbrev N194:E:=.cmp .eql N193 (.fn 150 (.pr N6 (.pr N0 (.fn 1 (.pr N112 N168)))))
abbrev N195:E:=.cmp .eql N193 (.int 0)
abbrev N196:E:=.cmp .eql N193 (.int 1)
abbrev N197:E:=.cmp .eql N193 (.int 2)
abbrev N198:E:=.and N181 (.and N182 (.and N175 (.and N184 (.and N118 N108))))
abbrev N199:E:=.pr N0 (.pr N1 N192)
abbrev N200:E:=.pr N6 N199
abbrev N201:E:=.pr N113 N200
abbrev N202:E:=.pr N141 N201
abbrev N203:E:=.mn (.int 99) (.ar .add .i64 N129 (.int 1))
abbrev N204:E:=.mn (.int 99) (.ar .add .i64 N141 (.int 1))
abbrev N205:E:=.and (.not (.cmp .lss N147 N168)) N188
abbrev N206:E:=.and N180 N205
abbrev N207:E:=.and N108 N206
abbrev N208:E:=.and N181 N207
abbrev N209:E:=.mn (.int 99) (.ar .add .i64 N113 (.int 1))
abbrev N210:E:=.var 4
abbrev N211:E:=.cmp .eql N0 N210
abbrev N212:E:=.bool false
abbrev N213:E:=.pr N6 (.pr N3 N0)
abbrev N214:E:=.fn 161 N213
abbrev N215:E:=.and N211 N214
abbrev N216:E:=.iff N212 N215
abbrev N217:E:=.cmp .eql N210 N0
abbrev N218:E:=.cmp .lss N37 N0
abbrev N219:E:=.cmp .eql (.fn 0 N3) N210
abbrev N220:E:=.and N219 N18
abbrev N221:E:=.and N217 N220
abbrev N222:E:=.cmp .eql (.fn 1 (.pr N6 N37)) (.fn 1 (.pr N3 N37))
abbrev N223:E:=.not (.cmp .lss N37 (.int 0))
abbrev N224:E:=.and N218 (.and N223 (.and N217 (.and (.not (.cmp .lss (.int 100) N210)) (.and (.not (.cmp .lss N210 (.int 0))) N220))))
abbrev N225:E:=.ar .add .i64 N37 (.int 1)
abbrev N226:E:=.cmp .lss (.int 12) (.fn 9 (.pr N6 (.int 14)))
abbrev N227:E:=.not N226
abbrev N228:E:=.pr N6 (.fn 9 (.pr N6 (.int 14)))
abbrev N229:E:=.fn 155 N228
abbrev N230:E:=.and N227 N229
abbrev N231:E:=.cmp .lss N37 (.fn 9 (.pr N6 (.int 14)))
abbrev N232:E:=.imp N227 N230
abbrev N233:E:=.cmp .lss N30 (.fn 9 (.pr (.fn 1 (.pr N6 (.fn 6 (.pr (.fn 8 (.pr N37 (.int 14))) (.int 12))))) (.int 2)))
abbrev N234:E:=.cmp .lss (.int 3) (.fn 9 (.pr (.fn 1 (.pr N6 (.fn 6 (.pr (.fn 8 (.pr N37 (.int 14))) (.int 12))))) (.int 2)))
abbrev N235:E:=.not N234
abbrev N236:E:=.and N36 N235
abbrev N237:E:=.and N233 N236
abbrev N238:E:=.and (.cmp .lss N37 (.int 13)) N223
abbrev N239:E:=.cmp .lss (.fn 9 (.pr (.fn 1 (.pr N6 (.fn 6 (.pr (.fn 8 (.pr N37 (.int 14))) (.int 12))))) (.int 2))) N30
abbrev N240:E:=.not N239
abbrev N241:E:=.and N240 N236
abbrev N242:E:=.and N233 N241
abbrev N243:E:=.pr (.fn 1 (.pr N6 (.fn 6 (.pr (.fn 8 (.pr N37 (.int 14))) (.int 12))))) N30
abbrev N244:E:=.fn 157 N243
abbrev N245:E:=.cmp .lss (.int 40) (.fn 0 (.fn 1 (.pr N6 (.int 6))))
abbrev N246:E:=.imp N212 (.fn 117 N6)
abbrev N247:E:=.cmp .lss (.int 40) (.fn 0 (.fn 1 (.pr N6 (.int 7))))
abbrev N248:E:=.cmp .lss (.int 40) (.fn 0 (.fn 1 (.pr N6 (.int 8))))
abbrev N249:E:=.cmp .lss (.int 40) (.fn 0 (.fn 1 (.pr N6 (.int 9))))
abbrev N250:E:=.cmp .lss (.int 40) (.fn 0 (.fn 1 (.pr N6 (.int 20))))
abbrev N251:E:=.cmp .lss (.int 40) (.fn 0 (.fn 1 (.pr N6 (.int 21))))
abbrev N252:E:=.cmp .lss (.int 40) (.fn 0 (.fn 1 (.pr N6 (.int 22))))
abbrev N253:E:=.cmp .lss (.int 40) (.fn 0 (.fn 1 (.pr N6 (.int 23))))
abbrev N254:E:=.cmp .lss (.int 20) (.fn 9 (.pr (.fn 1 (.pr N6 (.int 29))) (.int 5)))
abbrev N255:E:=.not N254
abbrev N256:E:=.pr (.fn 1 (.pr N6 (.int 29))) (.fn 9 (.pr (.fn 1 (.pr N6 (.int 29))) (.int 5)))
abbrev N257:E:=.fn 158 N256
abbrev N258:E:=.and N255 N257
abbrev N259:E:=.cmp .lss (.int 20) (.fn 9 (.pr (.fn 1 (.pr N6 (.int 30))) (.int 5)))
abbrev N260:E:=.not N259
abbrev N261:E:=.pr (.fn 1 (.pr N6 (.int 30))) (.fn 9 (.pr (.fn 1 (.pr N6 (.int 30))) (.int 5)))
abbrev N262:E:=.fn 158 N261
abbrev N263:E:=.and N260 N262
abbrev N264:E:=.imp (.not (.cmp .lss N37 (.int 1))) N258
abbrev N265:E:=.cmp .lss N37 (.int 2)
abbrev N266:E:=.not N265
abbrev N267:E:=.imp N266 N263
abbrev N268:E:=.cmp .lss N30 (.fn 9 (.pr (.fn 1 (.pr N6 (.int 29))) (.int 5)))
abbrev N269:E:=.and N36 N255
abbrev N270:E:=.and N268 N269
abbrev N271:E:=.pr (.fn 1 (.pr N6 (.int 29))) N30
abbrev N272:E:=.fn 158 N271
abbrev N273:E:=.imp (.not (.cmp .lss N225 (.int 1))) N258
abbrev N274:E:=.cmp .lss N30 (.fn 9 (.pr (.fn 1 (.pr N6 (.int 30))) (.int 5)))
abbrev N275:E:=.and N36 N260
abbrev N276:E:=.and N274 N275
abbrev N277:E:=.imp (.not (.cmp .lss N225 (.int 2))) N263
abbrev N278:E:=.pr (.fn 1 (.pr N6 (.int 30))) N30
abbrev N279:E:=.fn 158 N278
abbrev N280:E:=.var 5
abbrev N281:E:=.and N118 (.fn 146 (.pr (.int 0) (.pr (.int 0) (.pr (.int 0) (.pr (.int 0) (.int 0))))))
abbrev N282:E:=.not N118
abbrev N283:E:=.var 6
abbrev N284:E:=.imp N3 N230
abbrev N285:E:=.and N284 N3
abbrev N286:E:=.fn 144 (.pr N280 (.pr N6 (.pr N0 N1)))
def F559:E:=(.imp (.and N2 N4) (.not (.cmp .lss N3 (.int 0))))
theorem G559:Tr F559:=ii2 fun ρ p0 p1=>by
 try simp only [smA,smW] at *
 omega
def F560:E:=(.imp (.and N2 (.and N4 (.and (.not N5) (.not N7)))) N8)
theorem G560:Tr F560:=ii4 fun ρ p0 p1 p2 p3=>by
 have:=@t150 ρ N1 N3 N0 N6 (.fn 1 (.pr (.fn 1 (.pr N0 (.int 0))) (.fn 6 (.pr (.fn 8 (.pr N3 (.int 12))) (.int 1))))) rfl
 have:=@card_out ρ (.fn 1 (.pr (.fn 1 (.pr N0 (.int 0))) (.fn 6 (.pr (.fn 8 (.pr N3 (.int 12))) (.int 1))))) N6
 try simp only [smA,smW] at *
 grind
def F561:E:=(.imp (.and N2 (.and N4 (.and (.not N5) (.and N7 (.and N9 (.and (.not N10) (.not N11))))))) N8)
theorem G561:Tr F561:=ii7 fun ρ p0 p1 p2 p3 p4 p5 p6=>by
 have:=@t150 ρ N1 N3 N0 N6 (.fn 1 (.pr (.fn 1 (.pr N0 (.int 0))) (.fn 6 (.pr (.fn 8 (.pr N3 (.int 12))) (.int 1))))) rfl
 have:=@card_in ρ (.fn 1 (.pr (.fn 1 (.pr N0 (.int 0))) (.fn 6 (.pr (.fn 8 (.pr N3 (.int 12))) (.int 1))))) N6
 try simp only [smA,smW] at *
 grind
def F562:E:=(.imp (.and N2 (.and N4 (.and (.not N5) (.and N7 (.and N9 (.and (.not N10) N11)))))) (.cmp .eql (.fn 1 (.pr N6 (.fn 6 (.pr (.fn 8 (.pr (.fn 1 (.pr (.fn 1 (.pr N0 (.int 0))) (.fn 6 (.pr (.fn 8 (.pr N3 (.int 12))) (.int 1))))) (.int 14))) (.int 7))))) (.fn 150 (.pr N6 (.pr N0 N1)))))
theorem G562:Tr F562:=ii7 fun ρ p0 p1 p2 p3 p4 p5 p6=>by
 have:=@t150 ρ N1 N3 N0 N6 (.fn 1 (.pr (.fn 1 (.pr N0 (.int 0))) (.fn 6 (.pr (.fn 8 (.pr N3 (.int 12))) (.int 1))))) rfl
 have:=@card_in ρ (.fn 1 (.pr (.fn 1 (.pr N0 (.int 0))) (.fn 6 (.pr (.fn 8 (.pr N3 (.int 12))) (.int 1))))) N6
 try simp only [smA,smW] at *
 grind
def F563:E:=(.imp (.and N2 (.and N4 (.and (.not N5) (.and N7 (.and N9 N10))))) N8)
theorem G563:Tr F563:=ii6 fun ρ p0 p1 p2 p3 p4 p5=>by
 have:=@t150 ρ N1 N3 N0 N6 (.fn 1 (.pr (.fn 1 (.pr N0 (.int 0))) (.fn 6 (.pr (.fn 8 (.pr N3 (.int 12))) (.int 1))))) rfl
 have:=@card_in ρ (.fn 1 (.pr (.fn 1 (.pr N0 (.int 0))) (.fn 6 (.pr (.fn 8 (.pr N3 (.int 12))) (.int 1))))) N6
 try simp only [smA,smW] at *
 grind
def F564:E:=(.imp (.and N2 (.and N4 (.and (.not N5) (.and N7 (.not N9))))) N8)
theorem G564:Tr F564:=ii5 fun ρ p0 p1 p2 p3 p4=>by
 have:=@t150 ρ N1 N3 N0 N6 (.fn 1 (.pr (.fn 1 (.pr N0 (.int 0))) (.fn 6 (.pr (.fn 8 (.pr N3 (.int 12))) (.int 1))))) rfl
 have:=@card_in ρ (.fn 1 (.pr (.fn 1 (.pr N0 (.int 0))) (.fn 6 (.pr (.fn 8 (.pr N3 (.int 12))) (.int 1))))) N6
 try simp only [smA,smW] at *
 grind
def F565:E:=(.imp (.and N2 (.and N4 N5)) N8)
theorem G565:Tr F565:=ii3 fun ρ p0 p1 p2=>by
 have:=nn9 ρ (.pr N6 (.int 14))
 have:=@t150 ρ N1 N3 N0 N6 (.fn 1 (.pr (.fn 1 (.pr N0 (.int 0))) (.fn 6 (.pr (.fn 8 (.pr N3 (.int 12))) (.int 1))))) rfl
 have:=@card_out ρ (.fn 1 (.pr (.fn 1 (.pr N0 (.int 0))) (.fn 6 (.pr (.fn 8 (.pr N3 (.int 12))) (.int 1))))) N6
 try simp only [smA,smW] at *
 grind
namespace p38
def facts:List E:=[F559,F560,F561,F562,F563,F564,F565]
theorem facts_ok:∀ e∈facts,Tr e:=(ac G559 (ac G560 (ac G561 (ac G562 (ac G563 (ac G564 (ac G565 all_nil)))))))
end p38
theorem spec38_0:NatOk Try.prog (specNat (spMa)) :=
 spec_of_check good (facts:=p38.facts) p38.facts_ok (anns:=[]) (plainAnns_ok _ (by kernel_rfl)) (nats:=natl39) natl39_ok (n:=3000) (by kernel_rfl)
def natl40:List Nat1:=specNat (spMa)::natl39
theorem natl40_ok:∀ x∈natl40,NatOk Try.prog x:=by
 intro x hx
 rcases List.mem_cons.1 hx with rfl | hx
 ·exact spec38_0
 exact natl39_ok x hx

def F566:E:=(.imp N13 N16)
theorem G566:Tr F566:=ii1 fun ρ p0=>by
 try simp only [smA,smW] at *
 obtain ⟨a1,ea1,qa1⟩:=cs_i64 ((E.I ρ N12) + (1))
 try simp only [ea1] at *
 omega
def F567:E:=(.imp N20 N21)
theorem G567:Tr F567:=ii4 fun ρ p0 p1 p2 p3=>by
 try simp only [smA,smW] at *
 omega
def F568:E:=(.imp N26 (.not (.cmp .lss N22 (.int 0))))
theorem G568:Tr F568:=ii2 fun ρ p0 p1=>by
 try simp only [smA,smW] at *
 omega
def F569:E:=(.imp (.and (.not N21) (.and N18 (.and N23 (.not (.cmp .lss N0 N12))))) (.cmp .eql N22 N0))
theorem G569:Tr F569:=ii4 fun ρ p0 p1 p2 p3=>by
 try simp only [smA,smW] at *
 omega
def F570:E:=(.imp N27 N29)
theorem G570:Tr F570:=ii4 fun ρ p0 p1 p2 p3=>by
 try simp only [smA,smW] at *
 obtain ⟨a3,ea3,qa3⟩:=cs_i64 ((E.I ρ N12) + (1))
 try simp only [ea3] at *
 omega
def F571:E:=(.imp (.and N32 N33) N35)
theorem G571:Tr F571:=ii2 fun ρ p0 p1=>by
 try simp only [smA,smW] at *
 omega
def F572:E:=(.imp N40 N43)
theorem G572:Tr F572:=ii8 fun ρ p0 p1 p2 p3 p4 p5 p6 p7=>by
 try simp only [smA,smW] at *
 obtain ⟨a6,ea6,qa6⟩:=cs_i64 ((E.I ρ N30) + (1))
 try simp only [ea6] at *
 omega
def F573:E:=(.imp (.and N31 N38) N35)
theorem G573:Tr F573:=ii2 fun ρ p0 p1=>by
 try simp only [smA,smW] at *
 omega
def F574:E:=(.fn 160 (.pr N37 (.pr (.fn 1 (.pr N6 N12)) (.int 0))))
theorem G574:Tr F574:=fun ρ=>by
 unfold F574
 have:=@t160_zero ρ N37 (.int 0) (.fn 1 (.pr N6 N12))
 try simp only [smA,smW] at *
 grind
def F575:E:=(.imp (.and (.not N21) (.and N45 (.not (.cmp .lss N0 N12)))) (.fn 152 (.pr N37 (.pr N6 N0))))
theorem G575:Tr F575:=ii3 fun ρ p0 p1 p2=>by
 have:=@t152_eq ρ _ _ _ N0 p1
 try simp only [smA,smW] at *
 grind
def F576:E:=(.imp N13 (.cmp .eql N14 (.int 1)))
theorem G576:Tr F576:=ii1 fun ρ p0=>by
 try simp only [smA,smW] at *
 obtain ⟨a1,ea1,qa1⟩:=cs_i64 ((E.I ρ N12) + (1))
 try simp only [ea1] at *
 omega
def F577:E:=(.not (.cmp .lss N22 (.fn 6 (.pr N30 (.fn 7 (.pr N22 N30))))))
theorem G577:Tr F577:=fun ρ=>by
 unfold F577
 try simp only [smA,smW] at *
 omega
def F578:E:=(.imp N40 (.not (.cmp .lss N22 N41)))
theorem G578:Tr F578:=ii8 fun ρ p0 p1 p2 p3 p4 p5 p6 p7=>by
 try simp only [smA,smW] at *
 obtain ⟨a6,ea6,qa6⟩:=cs_i64 ((E.I ρ N30) + (1))
 try simp only [ea6] at *
 omega
def F579:E:=(.imp (.and N21 N20) N48)
theorem G579:Tr F579:=ii5 fun ρ p0 p1 p2 p3 p4=>by
 have:=@wrap_add ρ N12 (.int 1)
 have:=@t152_p1 ρ N6 (.int 0) N12 N14 (.fn 1 (.pr N6 N12)) rfl
 try simp only [smA,smW] at *
 grind
def F580:E:=(.imp (.and N32 N33) N50)
theorem G580:Tr F580:=ii2 fun ρ p0 p1=>by
 try simp only [smA,smW] at *
 omega
def F581:E:=(.imp (.and N31 (.and N51 (.and N21 (.and N17 (.and N54 (.and N36 N39)))))) (.fn 160 (.pr N37 (.pr (.fn 1 (.pr N6 N12)) N41))))
theorem G581:Tr F581:=ii8 fun ρ p0 p1 p2 p3 p4 p5 p6 p7=>by
 have:=@wrap_add ρ N30 (.int 1)
 have:=@t160_step ρ N37 N30 N41 (.fn 1 (.pr N6 N12))
 try simp only [smA,smW] at *
 grind
def F582:E:=(.imp (.and N21 (.and N17 (.and N18 (.and N19 (.and N36 N23))))) N50)
theorem G582:Tr F582:=ii6 fun ρ p0 p1 p2 p3 p4 p5=>by
 try simp only [smA,smW] at *
 omega
def F583:E:=(.imp N13 N55)
theorem G583:Tr F583:=ii1 fun ρ p0=>by
 try simp only [smA,smW] at *
 obtain ⟨a2,ea2,qa2⟩:=cs_i64 ((E.I ρ N12) + (1))
 try simp only [ea2] at *
 omega
def F584:E:=(.imp (.and N32 (.and N33 N57)) N58)
theorem G584:Tr F584:=ii4 fun ρ p0 p1 p2 p3=>by
 try simp only [smA,smW] at *
 omega
def F585:E:=(.imp N59 N58)
theorem G585:Tr F585:=ii1 fun ρ p0=>by
 try simp only [smA,smW] at *
 omega
def F586:E:=(.imp N40 (.cmp .lss (.fn 7 (.pr N22 N41)) (.fn 7 (.pr N22 N30))))
theorem G586:Tr F586:=ii8 fun ρ p0 p1 p2 p3 p4 p5 p6 p7=>by
 try simp only [smA,smW] at *
 obtain ⟨a6,ea6,qa6⟩:=cs_i64 ((E.I ρ N30) + (1))
 try simp only [ea6] at *
 omega
def F587:E:=(.imp (.and N31 N57) N58)
theorem G587:Tr F587:=ii3 fun ρ p0 p1 p2=>by
 try simp only [smA,smW] at *
 omega
def F588:E:=(.imp N27 N60)
theorem G588:Tr F588:=ii4 fun ρ p0 p1 p2 p3=>by
 try simp only [smA,smW] at *
 obtain ⟨a3,ea3,qa3⟩:=cs_i64 ((E.I ρ N12) + (1))
 try simp only [ea3] at *
 omega
def F589:E:=(.imp (.and N32 N63) N64)
theorem G589:Tr F589:=ii8 fun ρ p0 p1 p2 p3 p4 p5 p6 p7=>by
 try simp only [smA,smW] at *
 omega
def F590:E:=(.imp N40 (.not (.cmp .lss (.fn 7 (.pr N22 N41)) (.int 0))))
theorem G590:Tr F590:=ii8 fun ρ p0 p1 p2 p3 p4 p5 p6 p7=>by
 try simp only [smA,smW] at *
 obtain ⟨a6,ea6,qa6⟩:=cs_i64 ((E.I ρ N30) + (1))
 try simp only [ea6] at *
 omega
def F591:E:=(.imp (.and N31 N68) N64)
theorem G591:Tr F591:=ii7 fun ρ p0 p1 p2 p3 p4 p5 p6=>by
 try simp only [smA,smW] at *
 omega
def F592:E:=(.imp (.and N32 N33) N70)
theorem G592:Tr F592:=ii2 fun ρ p0 p1=>by
 try simp only [smA,smW] at *
 omega
def F593:E:=(.imp (.and N32 (.and N59 N63)) (.not (.cmp .lss (.int 2147483648) (.fn 6 (.pr N30 (.int 1))))))
theorem G593:Tr F593:=ii9 fun ρ p0 p1 p2 p3 p4 p5 p6 p7 p8=>by
 try simp only [smA,smW] at *
 omega
def F594:E:=(.imp (.and N31 N38) N70)
theorem G594:Tr F594:=ii2 fun ρ p0 p1=>by
 try simp only [smA,smW] at *
 omega
def F595:E:=(.imp N73 (.cmp .eql N14 (.int 0)))
theorem G595:Tr F595:=ii3 fun ρ p0 p1 p2=>by
 try simp only [smA,smW] at *
 obtain ⟨a3,ea3,qa3⟩:=cs_i64 ((E.I ρ N12) + (1))
 try simp only [ea3] at *
 omega
def F596:E:=(.imp N74 N75)
theorem G596:Tr F596:=ii5 fun ρ p0 p1 p2 p3 p4=>by
 try simp only [smA,smW] at *
 omega
def F597:E:=(.imp N68 (.not (.cmp .lss (.int 2147483648) (.fn 6 (.pr N30 (.fn 6 (.pr (.fn 7 (.pr N22 N30)) (.int 1))))))))
theorem G597:Tr F597:=ii6 fun ρ p0 p1 p2 p3 p4 p5=>by
 try simp only [smA,smW] at *
 have:=@fn0_nn ρ N37
 omega
def F598:E:=(.imp N76 (.cmp .eql N14 (.int 0)))
theorem G598:Tr F598:=ii3 fun ρ p0 p1 p2=>by
 try simp only [smA,smW] at *
 obtain ⟨a3,ea3,qa3⟩:=cs_i64 ((E.I ρ N12) + (1))
 try simp only [ea3] at *
 omega
def F599:E:=(.imp (.and N31 (.and N71 N38)) N75)
theorem G599:Tr F599:=ii3 fun ρ p0 p1 p2=>by
 try simp only [smA,smW] at *
 omega
def F600:E:=(.imp N73 N55)
theorem G600:Tr F600:=ii3 fun ρ p0 p1 p2=>by
 try simp only [smA,smW] at *
 obtain ⟨a4,ea4,qa4⟩:=cs_i64 ((E.I ρ N12) + (1))
 try simp only [ea4] at *
 omega
def F601:E:=(.imp N74 N16)
theorem G601:Tr F601:=ii5 fun ρ p0 p1 p2 p3 p4=>by
 try simp only [smA,smW] at *
 obtain ⟨a3,ea3,qa3⟩:=cs_i64 ((E.I ρ N12) + (1))
 try simp only [ea3] at *
 omega
def F602:E:=(.imp N79 N16)
theorem G602:Tr F602:=ii6 fun ρ p0 p1 p2 p3 p4 p5=>by
 try simp only [smA,smW] at *
 obtain ⟨a4,ea4,qa4⟩:=cs_i64 ((E.I ρ N12) + (1))
 try simp only [ea4] at *
 omega
def F603:E:=(.imp (.and N32 (.and N59 (.and N71 (.and N33 N26)))) (.cmp .eql N14 (.int 1)))
theorem G603:Tr F603:=ii6 fun ρ p0 p1 p2 p3 p4 p5=>by
 try simp only [smA,smW] at *
 obtain ⟨a4,ea4,qa4⟩:=cs_i64 ((E.I ρ N12) + (1))
 try simp only [ea4] at *
 omega
def F604:E:=(.imp N76 N55)
theorem G604:Tr F604:=ii3 fun ρ p0 p1 p2=>by
 try simp only [smA,smW] at *
 obtain ⟨a4,ea4,qa4⟩:=cs_i64 ((E.I ρ N12) + (1))
 try simp only [ea4] at *
 omega
def F605:E:=(.imp N81 N16)
theorem G605:Tr F605:=ii8 fun ρ p0 p1 p2 p3 p4 p5 p6 p7=>by
 try simp only [smA,smW] at *
 obtain ⟨a6,ea6,qa6⟩:=cs_i64 ((E.I ρ N12) + (1))
 try simp only [ea6] at *
 omega
def F606:E:=(.imp N73 N60)
theorem G606:Tr F606:=ii3 fun ρ p0 p1 p2=>by
 try simp only [smA,smW] at *
 obtain ⟨a4,ea4,qa4⟩:=cs_i64 ((E.I ρ N12) + (1))
 try simp only [ea4] at *
 omega
def F607:E:=(.imp N74 N29)
theorem G607:Tr F607:=ii5 fun ρ p0 p1 p2 p3 p4=>by
 try simp only [smA,smW] at *
 obtain ⟨a4,ea4,qa4⟩:=cs_i64 ((E.I ρ N12) + (1))
 try simp only [ea4] at *
 omega
def F608:E:=(.imp (.and N21 (.and N18 N26)) N29)
theorem G608:Tr F608:=ii4 fun ρ p0 p1 p2 p3=>by
 try simp only [smA,smW] at *
 obtain ⟨a4,ea4,qa4⟩:=cs_i64 ((E.I ρ N12) + (1))
 try simp only [ea4] at *
 omega
def F609:E:=(.imp N74 N48)
theorem G609:Tr F609:=ii5 fun ρ p0 p1 p2 p3 p4=>by
 try simp only [smA,smW] at *
 grind
def F610:E:=(.imp (.and N32 (.and N59 (.and N21 (.and N17 (.and N18 (.and N19 N82)))))) (.cmp .eql (.fn 6 (.pr N30 (.int 1))) N14))
theorem G610:Tr F610:=ii10 fun ρ p0 p1 p2 p3 p4 p5 p6 p7 p8 p9=>by
 try simp only [smA,smW] at *
 obtain ⟨a7,ea7,qa7⟩:=cs_i64 ((E.I ρ N12) + (1))
 try simp only [ea7] at *
 omega
def F611:E:=(.imp N76 N60)
theorem G611:Tr F611:=ii3 fun ρ p0 p1 p2=>by
 try simp only [smA,smW] at *
 obtain ⟨a4,ea4,qa4⟩:=cs_i64 ((E.I ρ N12) + (1))
 try simp only [ea4] at *
 omega
def F612:E:=(.imp N84 N29)
theorem G612:Tr F612:=ii6 fun ρ p0 p1 p2 p3 p4 p5=>by
 try simp only [smA,smW] at *
 obtain ⟨a6,ea6,qa6⟩:=cs_i64 ((E.I ρ N12) + (1))
 try simp only [ea6] at *
 omega
def F613:E:=(.imp N74 N85)
theorem G613:Tr F613:=ii5 fun ρ p0 p1 p2 p3 p4=>by
 try simp only [smA,smW] at *
 obtain ⟨a3,ea3,qa3⟩:=cs_i64 ((E.I ρ N12) + (1))
 try simp only [ea3] at *
 omega
def F614:E:=(.imp N79 (.cmp .eql (.fn 6 (.pr N30 (.fn 6 (.pr (.fn 7 (.pr N22 N30)) (.int 1))))) N14))
theorem G614:Tr F614:=ii6 fun ρ p0 p1 p2 p3 p4 p5=>by
 try simp only [smA,smW] at *
 obtain ⟨a5,ea5,qa5⟩:=cs_i64 ((E.I ρ N12) + (1))
 try simp only [ea5] at *
 omega
def F615:E:=(.imp (.and N32 (.and N59 N82)) (.cmp .eql (.fn 6 (.pr (.fn 0 (.fn 4 (.pr N37 (.pr (.int 0) N30)))) (.int 1))) (.fn 6 (.pr N30 (.int 1)))))
theorem G615:Tr F615:=ii6 fun ρ p0 p1 p2 p3 p4 p5=>by
 have:=@len_4 ρ N37 (.int 0) N30
 try simp only [smA,smW] at *
 omega
def F616:E:=(.imp N81 N85)
theorem G616:Tr F616:=ii8 fun ρ p0 p1 p2 p3 p4 p5 p6 p7=>by
 try simp only [smA,smW] at *
 obtain ⟨a6,ea6,qa6⟩:=cs_i64 ((E.I ρ N12) + (1))
 try simp only [ea6] at *
 omega
def F617:E:=(.imp N74 N86)
theorem G617:Tr F617:=ii5 fun ρ p0 p1 p2 p3 p4=>by
 try simp only [smA,smW] at *
 omega
def F618:E:=(.imp (.and N32 N82) N87)
theorem G618:Tr F618:=ii5 fun ρ p0 p1 p2 p3 p4=>by
 have:=@len_4 ρ N37 (.int 0) N30
 have:=@len_4 ρ N37 N30 (.fn 6 (.pr N30 (.fn 7 (.pr N22 N30))))
 try simp only [smA,smW] at *
 omega
def F619:E:=(.imp N96 (.fn 152 (.pr (.fn 3 (.pr (.fn 4 (.pr N37 (.pr (.int 0) N30))) (.fn 23 (.pr (.fn 1 (.pr N6 N12)) (.fn 10 (.int 0)))))) N46)))
theorem G619:Tr F619:=ii10 fun ρ p0 p1 p2 p3 p4 p5 p6 p7 p8 p9=>by
 have:=@wrap_add ρ N12 (.int 1)
 have:=@t152_p ρ _ _ _ _ N14 _ (.fn 0 N37) p7 p4 rfl
 try simp only [smA,smW] at *
 grind
def F620:E:=(.imp (.and N31 (.and N71 N38)) N86)
theorem G620:Tr F620:=ii3 fun ρ p0 p1 p2=>by
 have:=@len_4 ρ N37 N30 (.fn 6 (.pr N30 (.fn 7 (.pr N22 N30))))
 try simp only [smA,smW] at *
 omega
def F621:E:=(.imp (.and N31 (.and N36 N38)) N87)
theorem G621:Tr F621:=ii3 fun ρ p0 p1 p2=>by
 have:=@len_4 ρ N37 (.int 0) N30
 have:=@len_4 ρ N37 N30 (.fn 6 (.pr N30 (.fn 7 (.pr N22 N30))))
 try simp only [smA,smW] at *
 omega
def F622:E:=(.imp N74 N98)
theorem G622:Tr F622:=ii5 fun ρ p0 p1 p2 p3 p4=>by
 try simp only [smA,smW] at *
 grind
def F623:E:=(.imp N96 N100)
theorem G623:Tr F623:=ii10 fun ρ p0 p1 p2 p3 p4 p5 p6 p7 p8 p9=>by
 have:=@wrap_add ρ N12 (.int 1)
 have:=@t152_p ρ _ _ _ _ N14 _ (.fn 6 (.pr N30 (.fn 7 (.pr N22 N30)))) p7 p4 rfl
 try simp only [smA,smW] at *
 grind
def F624:E:=(.imp (.and N31 (.and (.not N51) (.and N71 N106))) N98)
theorem G624:Tr F624:=ii11 fun ρ p0 p1 p2 p3 p4 p5 p6 p7 p8 p9 p10=>by
 have:=@wrap_add ρ N12 (.int 1)
 have:=@t152_p ρ _ _ _ _ N14 _ (.fn 6 (.pr N30 (.fn 7 (.pr N22 N30)))) p8 p6 rfl
 try simp only [smA,smW] at *
 grind
def F625:E:=(.imp (.and N31 (.and (.not N51) N106)) N100)
theorem G625:Tr F625:=ii10 fun ρ p0 p1 p2 p3 p4 p5 p6 p7 p8 p9=>by
 have:=@wrap_add ρ N12 (.int 1)
 have:=@t152_p ρ _ _ _ _ N14 _ (.fn 6 (.pr N30 (.fn 7 (.pr N22 N30)))) p7 p5 rfl
 try simp only [smA,smW] at *
 grind
def F626:E:=(.imp N74 N55)
theorem G626:Tr F626:=ii5 fun ρ p0 p1 p2 p3 p4=>by
 try simp only [smA,smW] at *
 obtain ⟨a4,ea4,qa4⟩:=cs_i64 ((E.I ρ N12) + (1))
 try simp only [ea4] at *
 omega
def F627:E:=(.imp N79 N55)
theorem G627:Tr F627:=ii6 fun ρ p0 p1 p2 p3 p4 p5=>by
 try simp only [smA,smW] at *
 obtain ⟨a4,ea4,qa4⟩:=cs_i64 ((E.I ρ N12) + (1))
 try simp only [ea4] at *
 omega
def F628:E:=(.imp N81 N55)
theorem G628:Tr F628:=ii8 fun ρ p0 p1 p2 p3 p4 p5 p6 p7=>by
 try simp only [smA,smW] at *
 obtain ⟨a6,ea6,qa6⟩:=cs_i64 ((E.I ρ N12) + (1))
 try simp only [ea6] at *
 omega
def F629:E:=(.imp N74 N60)
theorem G629:Tr F629:=ii5 fun ρ p0 p1 p2 p3 p4=>by
 try simp only [smA,smW] at *
 obtain ⟨a4,ea4,qa4⟩:=cs_i64 ((E.I ρ N12) + (1))
 try simp only [ea4] at *
 omega
def F630:E:=(.imp (.and N21 (.and N18 N26)) N60)
theorem G630:Tr F630:=ii4 fun ρ p0 p1 p2 p3=>by
 try simp only [smA,smW] at *
 obtain ⟨a4,ea4,qa4⟩:=cs_i64 ((E.I ρ N12) + (1))
 try simp only [ea4] at *
 omega
def F631:E:=(.imp N84 N60)
theorem G631:Tr F631:=ii6 fun ρ p0 p1 p2 p3 p4 p5=>by
 try simp only [smA,smW] at *
 obtain ⟨a6,ea6,qa6⟩:=cs_i64 ((E.I ρ N12) + (1))
 try simp only [ea6] at *
 omega
namespace p39
def facts:List E:=[F566,F567,F568,F569,F570,F571,F572,F573,F574,F575,F576,F577,F578,F579,F580,F581,F582,F583,F584,F585,F586,F587,F588,F589,F590,F591,F592,F593,F594,F595,F596,F597,F598,F599,F600,F601,F602,F603,F604,F605,F606,F607,F608,F609,F610,F611,F612,F613,F614,F615,F616,F617,F618,F619,F620,F621,F622,F623,F624,F625,F626,F627,F628,F629,F630,F631]
theorem facts_ok:∀ e∈facts,Tr e:=(ac G566 (ac G567 (ac G568 (ac G569 (ac G570 (ac G571 (ac G572 (ac G573 (ac G574 (ac G575 (ac G576 (ac G577 (ac G578 (ac G579 (ac G580 (ac G581 (ac G582 (ac G583 (ac G584 (ac G585 (ac G586 (ac G587 (ac G588 (ac G589 (ac G590 (ac G591 (ac G592 (ac G593 (ac G594 (ac G595 (ac G596 (ac G597 (ac G598 (ac G599 (ac G600 (ac G601 (ac G602 (ac G603 (ac G604 (ac G605 (ac G606 (ac G607 (ac G608 (ac G609 (ac G610 (ac G611 (ac G612 (ac G613 (ac G614 (ac G615 (ac G616 (ac G617 (ac G618 (ac G619 (ac G620 (ac G621 (ac G622 (ac G623 (ac G624 (ac G625 (ac G626 (ac G627 (ac G628 (ac G629 (ac G630 (ac G631 all_nil))))))))))))))))))))))))))))))))))))))))))))))))))))))))))))))))))
end p39
theorem spec39_0:NatOk Try.prog (specNat (spSd)) :=
 spec_of_check good (facts:=p39.facts) p39.facts_ok (anns:=annSd) (plainAnns_ok _ (by kernel_rfl)) (nats:=natl40) natl40_ok (n:=3000) (by kernel_rfl)
def natl41:List Nat1:=specNat (spSd)::natl40
theorem natl41_ok:∀ x∈natl41,NatOk Try.prog x:=by
 intro x hx
 rcases List.mem_cons.1 hx with rfl | hx
 ·exact spec39_0
 exact natl40_ok x hx

def F632:E:=(.imp (.and N107 N108) (.fn 109 (.pr (.fn 1 (.pr N0 (.int 8))) N110)))
theorem G632:Tr F632:=ii2 fun ρ p0 p1=>by
 have g0:E.I ρ N1=(0):=by
  have:=t117 p1
  have:=nn9 ρ (.pr N6 (.int 14))
  try simp only [smA,smW] at *
  omega
 have g1:E.I ρ (.int 2)=E.I ρ (.int 2):=rfl
 exact t109 0 2 8 (by decide) (by decide) g0 g1
def F633:E:=(.imp (.and (.not N107) (.and (.not (.cmp .lss (.int 1) N1)) (.and (.not (.cmp .lss N1 (.int 0))) N108))) (.fn 109 (.pr (.fn 1 (.pr N0 (.int 22))) N110)))
theorem G633:Tr F633:=ii4 fun ρ p0 p1 p2 p3=>by
 have g0:E.I ρ N1=(1):=by
  have:=t117 p3
  have:=nn9 ρ (.pr N6 (.int 14))
  try simp only [smA,smW] at *
  omega
 have g1:E.I ρ (.int 2)=E.I ρ (.int 2):=rfl
 exact t109 1 2 22 (by decide) (by decide) g0 g1
def F634:E:=(.imp N108 (.not (.cmp .lss (.int 40) (.fn 0 (.fn 1 (.pr N0 (.int 8)))))))
theorem G634:Tr F634:=ii1 fun ρ p0=>by
 have:=t117 p0
 try simp only [smA,smW] at *
 have:=@fn0_nn ρ (.fn 1 (.pr N0 (.int 8)))
 omega
def F635:E:=(.imp N108 (.not (.cmp .lss (.int 40) (.fn 0 (.fn 1 (.pr N0 (.int 22)))))))
theorem G635:Tr F635:=ii1 fun ρ p0=>by
 have:=t117 p0
 try simp only [smA,smW] at *
 have:=@fn0_nn ρ (.fn 1 (.pr N0 (.int 22)))
 omega
def F636:E:=(.fn 151 (.pr (.fn 10 (.int 0)) N111))
theorem G636:Tr F636:=fun ρ=>by
 unfold F636
 have:=@t151_zero ρ (.int 0) N1 (.int 0) N0 N6
 try simp only [smA,smW] at *
 grind
def F637:E:=(.imp (.and N114 (.and N115 N119)) N121)
theorem G637:Tr F637:=ii4 fun ρ p0 p1 p2 p3=>by
 have:=@t120_field ρ N112 _ _ _ p2 p3 (.fn 1 (.pr N113 N112)) rfl
 try simp only [smA,smW] at *
 grind
def F638:E:=(.imp (.and N126 (.and (.not N114) N119)) N128)
theorem G638:Tr F638:=ii4 fun ρ p0 p1 p2 p3=>by
 have:=@t151_nil ρ _ (.int 0) _ _ _ _ _ p0 p2 p3
 try simp only [smA,smW] at *
 grind
def F639:E:=(.imp (.and N114 (.and N130 (.and N131 N119))) N121)
theorem G639:Tr F639:=ii5 fun ρ p0 p1 p2 p3 p4=>by
 have:=@t120_field ρ N112 _ _ _ p3 p4 (.fn 1 (.pr N113 N112)) rfl
 try simp only [smA,smW] at *
 grind
def F640:E:=(.imp (.and (.not N114) (.and N130 (.and N132 (.and N134 N136)))) (.not (.cmp .lss (.int 60) N129)))
theorem G640:Tr F640:=ii6 fun ρ p0 p1 p2 p3 p4 p5=>by
 try simp only [smA,smW] at *
 omega
def F641:E:=(.imp (.and N114 (.and (.not (.cmp .lss N137 (.int (-1)))) (.and N138 (.and N115 N119)))) (.not (.cmp .lss N137 (.int 0))))
theorem G641:Tr F641:=ii6 fun ρ p0 p1 p2 p3 p4 p5=>by
 have:=@t120_field ρ N112 _ _ _ p4 p5 (.fn 1 (.pr N113 N112)) rfl
 try simp only [smA,smW] at *
 grind
def F642:E:=(.imp (.and N114 (.and (.not (.cmp .lss N137 (.int (-1)))) (.and N138 (.and N130 (.and N131 N119))))) (.not (.cmp .lss N137 (.int 0))))
theorem G642:Tr F642:=ii7 fun ρ p0 p1 p2 p3 p4 p5 p6=>by
 have:=@t120_field ρ N112 _ _ _ p5 p6 (.fn 1 (.pr N113 N112)) rfl
 try simp only [smA,smW] at *
 grind
def F643:E:=(.imp (.and N131 (.cmp .eql N137 N129)) (.not (.cmp .lss N137 (.int 1))))
theorem G643:Tr F643:=ii2 fun ρ p0 p1=>by
 try simp only [smA,smW] at *
 omega
def F644:E:=(.imp N139 (.not (.cmp .lss N140 (.int 0))))
theorem G644:Tr F644:=ii3 fun ρ p0 p1 p2=>by
 try simp only [smA,smW] at *
 have:=@fn0_nn ρ N113
 obtain ⟨a4,ea4,qa4⟩:=cs_i64 ((E.I ρ N112) + (1))
 try simp only [ea4] at *
 omega
def F645:E:=(.imp (.and (.not (.cmp .lss N141 N129)) N131) (.not (.cmp .lss N141 (.int 0))))
theorem G645:Tr F645:=ii2 fun ρ p0 p1=>by
 try simp only [smA,smW] at *
 grind
def F646:E:=(.imp N142 (.not (.cmp .lss N140 (.int 0))))
theorem G646:Tr F646:=ii4 fun ρ p0 p1 p2 p3=>by
 try simp only [smA,smW] at *
 obtain ⟨a7,ea7,qa7⟩:=cs_i64 ((E.I ρ N112) + (1))
 try simp only [ea7] at *
 grind
def F647:E:=(.imp (.and N130 (.and N132 (.and N134 (.and N115 (.and (.not N114) (.and (.cmp .eql N137 N129) N135)))))) (.not (.cmp .lss (.int 40) N137)))
theorem G647:Tr F647:=ii7 fun ρ p0 p1 p2 p3 p4 p5 p6=>by
 try simp only [smA,smW] at *
 omega
def F648:E:=(.imp (.and N114 N115) (.not (.cmp .lss (.fn 0 N113) N140)))
theorem G648:Tr F648:=ii2 fun ρ p0 p1=>by
 try simp only [smA,smW] at *
 obtain ⟨a4,ea4,qa4⟩:=cs_i64 ((E.I ρ N112) + (1))
 try simp only [ea4] at *
 omega
def F649:E:=(.imp (.and N114 (.and N130 N135)) (.not (.cmp .lss (.int 2147483648) (.fn 6 (.pr N129 (.int 1))))))
theorem G649:Tr F649:=ii3 fun ρ p0 p1 p2=>by
 try simp only [smA,smW] at *
 grind
def F650:E:=(.imp N146 (.not (.cmp .lss (.fn 0 N113) N140)))
theorem G650:Tr F650:=ii5 fun ρ p0 p1 p2 p3 p4=>by
 try simp only [smA,smW] at *
 obtain ⟨a7,ea7,qa7⟩:=cs_i64 ((E.I ρ N112) + (1))
 try simp only [ea7] at *
 grind
def F651:E:=(.imp (.and (.not N114) (.and (.fn 152 (.pr N147 (.pr N30 N129))) (.and N149 (.and N132 N119)))) (.fn 144 (.pr N147 (.pr N6 (.pr N0 N1)))))
theorem G651:Tr F651:=ii6 fun ρ p0 p1 p2 p3 p4 p5=>by
 have:=@t151_end ρ _ N147 _ _ N129 _ _ _ p2 p4 p5 p1
 try simp only [smA,smW] at *
 grind
def F652:E:=(.imp (.and N126 (.and N114 (.and N150 (.and N151 N153)))) N158)
theorem G652:Tr F652:=ii7 fun ρ p0 p1 p2 p3 p4 p5 p6=>by
 have:=@wrap_add ρ N112 (.int 1)
 have:=@t151_step ρ _ _ _ N140 _ _ _ p0 p6 (.fn 1 (.pr N113 N112)) N147 (.int 0) (.fn 1 (.pr (.fn 1 (.pr N0 (.int 0))) (.fn 6 (.pr (.fn 8 (.pr (.int 0) (.int 12))) (.int 9))))) rfl rfl
 try simp only [smA,smW] at *
 grind
def F653:E:=(.imp N139 (.not (.cmp .lss N140 (.int 1))))
theorem G653:Tr F653:=ii3 fun ρ p0 p1 p2=>by
 try simp only [smA,smW] at *
 obtain ⟨a6,ea6,qa6⟩:=cs_i64 ((E.I ρ N112) + (1))
 try simp only [ea6] at *
 grind
def F654:E:=(.imp (.and N126 (.and N114 (.and N150 (.and N138 (.and (.fn 1 (.pr (.fn 1 (.pr N0 (.int 0))) (.fn 6 (.pr (.fn 8 (.pr N137 (.int 12))) (.int 9))))) (.and N115 N159)))))) N158)
theorem G654:Tr F654:=ii9 fun ρ p0 p1 p2 p3 p4 p5 p6 p7 p8=>by
 have:=@wrap_add ρ N112 (.int 1)
 have:=@t120_field ρ N112 _ _ _ p7 p8 (.fn 1 (.pr N113 N112)) rfl
 have:=@t151_step ρ _ _ _ N140 _ _ _ p0 p7 (.fn 1 (.pr N113 N112)) N147 N137 (.fn 1 (.pr (.fn 1 (.pr N0 (.int 0))) (.fn 6 (.pr (.fn 8 (.pr N137 (.int 12))) (.int 9))))) rfl rfl
 try simp only [smA,smW] at *
 grind
def F655:E:=(.imp (.and N114 (.and N130 (.and N132 N136))) (.not (.cmp .lss N140 N129)))
theorem G655:Tr F655:=ii5 fun ρ p0 p1 p2 p3 p4=>by
 try simp only [smA,smW] at *
 have:=@fn0_nn ρ N113
 obtain ⟨a6,ea6,qa6⟩:=cs_i64 ((E.I ρ N112) + (1))
 try simp only [ea6] at *
 omega
def F656:E:=(.imp N142 (.not (.cmp .lss N140 N129)))
theorem G656:Tr F656:=ii4 fun ρ p0 p1 p2 p3=>by
 try simp only [smA,smW] at *
 obtain ⟨a7,ea7,qa7⟩:=cs_i64 ((E.I ρ N112) + (1))
 try simp only [ea7] at *
 grind
def F657:E:=(.imp N139 N160)
theorem G657:Tr F657:=ii3 fun ρ p0 p1 p2=>by
 try simp only [smA,smW] at *
 have:=@fn0_nn ρ N113
 obtain ⟨a4,ea4,qa4⟩:=cs_i64 ((E.I ρ N112) + (1))
 try simp only [ea4] at *
 omega
def F658:E:=(.imp (.and N126 (.and N114 (.and N150 (.and (.not N151) (.and N138 (.and N161 (.and N115 N159))))))) (.fn 151 (.pr (.fn 23 (.pr (.fn 1 (.pr N113 N112)) (.fn 10 (.int 0)))) N156)))
theorem G658:Tr F658:=ii10 fun ρ p0 p1 p2 p3 p4 p5 p6 p7 p8 p9=>by
 have:=@wrap_add ρ N112 (.int 1)
 have:=@t120_field ρ N112 _ _ _ p8 p9 (.fn 1 (.pr N113 N112)) rfl
 have hnil0:ints ρ (.fn 10 (.int 0))=[]:=rfl
 have:=@t151_step ρ _ _ _ N140 _ _ _ p0 p8 (.fn 1 (.pr N113 N112)) N147 N137 (.fn 1 (.pr (.fn 1 (.pr N0 (.int 0))) (.fn 6 (.pr (.fn 8 (.pr N137 (.int 12))) (.int 9))))) rfl rfl
 try simp only [smA,smW] at *
 grind
def F659:E:=(.imp (.and N114 (.and N150 (.and N151 (.and N149 (.and N130 (.and N131 N153)))))) N163)
theorem G659:Tr F659:=ii9 fun ρ p0 p1 p2 p3 p4 p5 p6 p7 p8=>by
 have:=@wrap_add ρ N112 (.int 1)
 have:=@t151_step ρ _ _ _ N140 _ _ _ p3 p8 (.fn 1 (.pr N113 N112)) N147 (.int 0) (.fn 1 (.pr (.fn 1 (.pr N0 (.int 0))) (.fn 6 (.pr (.fn 8 (.pr (.int 0) (.int 12))) (.int 9))))) rfl rfl
 try simp only [smA,smW] at *
 grind
def F660:E:=(.imp (.and N114 (.and N150 (.and N138 (.and (.fn 1 (.pr (.fn 1 (.pr N0 (.int 0))) (.fn 6 (.pr (.fn 8 (.pr N137 (.int 12))) (.int 9))))) N165)))) N163)
theorem G660:Tr F660:=ii10 fun ρ p0 p1 p2 p3 p4 p5 p6 p7 p8 p9=>by
 have:=@wrap_add ρ N112 (.int 1)
 have:=@t120_field ρ N112 _ _ _ p8 p9 (.fn 1 (.pr N113 N112)) rfl
 have:=@t151_step ρ _ _ _ N140 _ _ _ p4 p8 (.fn 1 (.pr N113 N112)) N147 N137 (.fn 1 (.pr (.fn 1 (.pr N0 (.int 0))) (.fn 6 (.pr (.fn 8 (.pr N137 (.int 12))) (.int 9))))) rfl rfl
 try simp only [smA,smW] at *
 grind
def F661:E:=(.imp (.and N114 N115) N167)
theorem G661:Tr F661:=ii2 fun ρ p0 p1=>by
 try simp only [smA,smW] at *
 obtain ⟨a4,ea4,qa4⟩:=cs_i64 ((E.I ρ N112) + (1))
 try simp only [ea4] at *
 omega
def F662:E:=(.imp N132 (.cmp .eql (.fn 6 (.pr (.fn 0 N30) (.int 1))) (.fn 6 (.pr N129 (.int 1)))))
theorem G662:Tr F662:=ii1 fun ρ p0=>by
 try simp only [smA,smW] at *
 grind
def F663:E:=(.imp N142 N160)
theorem G663:Tr F663:=ii4 fun ρ p0 p1 p2 p3=>by
 try simp only [smA,smW] at *
 obtain ⟨a7,ea7,qa7⟩:=cs_i64 ((E.I ρ N112) + (1))
 try simp only [ea7] at *
 grind
def F664:E:=(.imp N142 (.not (.cmp .lss N140 (.fn 6 (.pr N129 (.int 1))))))
theorem G664:Tr F664:=ii4 fun ρ p0 p1 p2 p3=>by
 try simp only [smA,smW] at *
 obtain ⟨a7,ea7,qa7⟩:=cs_i64 ((E.I ρ N112) + (1))
 try simp only [ea7] at *
 grind
def F665:E:=(.imp N146 N167)
theorem G665:Tr F665:=ii5 fun ρ p0 p1 p2 p3 p4=>by
 try simp only [smA,smW] at *
 obtain ⟨a7,ea7,qa7⟩:=cs_i64 ((E.I ρ N112) + (1))
 try simp only [ea7] at *
 grind
def F666:E:=(.imp (.and N114 (.and N150 (.and (.not N151) (.and N138 (.and N161 N165))))) (.fn 151 (.pr (.fn 3 (.pr N30 (.fn 23 (.pr (.fn 1 (.pr N113 N112)) (.fn 10 (.int 0)))))) N156)))
theorem G666:Tr F666:=ii11 fun ρ p0 p1 p2 p3 p4 p5 p6 p7 p8 p9 p10=>by
 have:=@wrap_add ρ N112 (.int 1)
 have:=@t120_field ρ N112 _ _ _ p9 p10 (.fn 1 (.pr N113 N112)) rfl
 have:=@t151_step ρ _ _ _ N140 _ _ _ p5 p9 (.fn 1 (.pr N113 N112)) N147 N137 (.fn 1 (.pr (.fn 1 (.pr N0 (.int 0))) (.fn 6 (.pr (.fn 8 (.pr N137 (.int 12))) (.int 9))))) rfl rfl
 try simp only [smA,smW] at *
 grind
namespace p40
def facts:List E:=[F632,F633,F634,F635,F636,F637,F638,F639,F640,F641,F642,F643,F644,F645,F646,F647,F648,F649,F650,F651,F652,F653,F654,F655,F656,F657,F658,F659,F660,F661,F662,F663,F664,F665,F666]
theorem facts_ok:∀ e∈facts,Tr e:=(ac G632 (ac G633 (ac G634 (ac G635 (ac G636 (ac G637 (ac G638 (ac G639 (ac G640 (ac G641 (ac G642 (ac G643 (ac G644 (ac G645 (ac G646 (ac G647 (ac G648 (ac G649 (ac G650 (ac G651 (ac G652 (ac G653 (ac G654 (ac G655 (ac G656 (ac G657 (ac G658 (ac G659 (ac G660 (ac G661 (ac G662 (ac G663 (ac G664 (ac G665 (ac G666 all_nil)))))))))))))))))))))))))))))))))))
end p40
theorem spec40_0:NatOk Try.prog (specNat (spRS)) :=
 spec_of_check good (facts:=p40.facts) p40.facts_ok (anns:=annRS) (plainAnns_ok _ (by kernel_rfl)) (nats:=natl41) natl41_ok (n:=3000) (by kernel_rfl)
def natl42:List Nat1:=specNat (spRS)::natl41
theorem natl42_ok:∀ x∈natl42,NatOk Try.prog x:=by
 intro x hx
 rcases List.mem_cons.1 hx with rfl | hx
 ·exact spec40_0
 exact natl41_ok x hx

def F667:E:=(.imp (.and (.not N107) N118) (.fn 147 (.pr (.fn 1 (.pr N0 (.int 16))) (.pr (.fn 1 (.pr N0 (.int 17))) (.pr (.fn 1 (.pr N0 (.int 18))) (.pr (.fn 1 (.pr N0 (.int 19))) N111))))))
theorem G667:Tr F667:=ii2 fun ρ p0 p1=>by
 have:=@z145 ρ N1 N0
 have:=@t147_1 ρ N1 (.int 0) N0 N6
 try simp only [smA,smW] at *
 grind
def F668:E:=(.imp (.and (.cmp .eql N168 (.int 0)) (.and N128 N176)) N179)
theorem G668:Tr F668:=ii4 fun ρ p0 p1 p2 p3=>by
 have:=t117 p3
 have:=@t144_len ρ _ _ _ _ p1
 have hln1:E.I ρ (.fn 0 (.fn 10 (.int 0)))=0:=rfl
 have:=@t147_endR ρ _ _ _ (.int 30) _ _ _ _ _ _ p1 p2
 try simp only [smA,smW] at *
 grind
def F669:E:=(.imp (.and N180 N187) (.not (.cmp .lss (.fn 120 (.pr N0 (.pr (.fn 1 (.pr N112 N168)) (.fn 9 (.pr (.fn 1 (.pr N0 (.int 0))) (.int 12)))))) (.int 0))))
theorem G669:Tr F669:=ii5 fun ρ p0 p1 p2 p3 p4=>by
 have:=@t144_col ρ _ N168 _ _ _ p1 p4 (.fn 1 (.pr N112 N168)) rfl
 try simp only [smA,smW] at *
 grind
def F670:E:=(.imp (.and (.not N180) (.and N181 (.and N182 N176))) N179)
theorem G670:Tr F670:=ii5 fun ρ p0 p1 p2 p3 p4=>by
 have:=t117 p4
 have:=@t144_len ρ _ _ _ _ p1
 have:=@t147_endR ρ _ _ _ (.int 30) _ _ _ _ _ _ p1 p3
 try simp only [smA,smW] at *
 grind
def F671:E:=(.imp N191 (.not (.cmp .lss N192 (.int 0))))
theorem G671:Tr F671:=ii5 fun ρ p0 p1 p2 p3 p4=>by
 have:=t117 p1
 have:=@t144_len ρ _ _ _ _ p0
 try simp only [smA,smW] at *
 obtain ⟨a5,ea5,qa5⟩:=cs_i64 ((E.I ρ N168) + (1))
 try simp only [ea5] at *
 grind
def F672:E:=(.imp (.and N180 (.and (.not (.cmp .lss (.int 3) N193)) (.and N194 (.and (.not N195) (.and (.not N196) (.and (.not N197) N187)))))) (.cmp .eql N193 (.int 3)))
theorem G672:Tr F672:=ii10 fun ρ p0 p1 p2 p3 p4 p5 p6 p7 p8 p9=>by
 have:=@t144_col ρ _ N168 _ _ _ p6 p9 (.fn 1 (.pr N112 N168)) rfl
 try simp only [smA,smW] at *
 grind
def F673:E:=(.imp (.and N180 (.and N194 (.and N195 N198))) (.fn 147 (.pr (.mn (.int 99) N41) (.pr N129 N202))))
theorem G673:Tr F673:=ii9 fun ρ p0 p1 p2 p3 p4 p5 p6 p7 p8=>by
 have:=t117 p8
 have:=@wrap_add ρ N30 (.int 1)
 have:=@wrap_add ρ N168 (.int 1)
 have:=@t144_len ρ _ _ _ _ p3
 have:=@t147_stepR ρ _ _ _ N192 _ _ _ _ _ _ N193 (.mn (.int 99) N41) p3 p7 p5 (.fn 1 (.pr N112 N168)) rfl
 have:=@t147_rng ρ _ _ _ _ _ _ _ _ p5 p7
 try simp only [smA,smW] at *
 grind
def F674:E:=(.imp (.and N180 (.and N194 (.and N196 N198))) (.fn 147 (.pr N30 (.pr N203 N202))))
theorem G674:Tr F674:=ii9 fun ρ p0 p1 p2 p3 p4 p5 p6 p7 p8=>by
 have:=t117 p8
 have:=@wrap_add ρ N129 (.int 1)
 have:=@wrap_add ρ N168 (.int 1)
 have:=@t144_len ρ _ _ _ _ p3
 have:=@t147_stepR ρ _ _ _ N192 _ _ _ _ _ _ N193 N203 p3 p7 p5 (.fn 1 (.pr N112 N168)) rfl
 have:=@t147_rng ρ _ _ _ _ _ _ _ _ p5 p7
 try simp only [smA,smW] at *
 grind
def F675:E:=(.imp (.and N180 (.and N194 (.and N197 N198))) (.fn 147 (.pr N30 (.pr N129 (.pr N204 N201)))))
theorem G675:Tr F675:=ii9 fun ρ p0 p1 p2 p3 p4 p5 p6 p7 p8=>by
 have:=t117 p8
 have:=@wrap_add ρ N141 (.int 1)
 have:=@wrap_add ρ N168 (.int 1)
 have:=@t144_len ρ _ _ _ _ p3
 have:=@t147_stepR ρ _ _ _ N192 _ _ _ _ _ _ N193 N204 p3 p7 p5 (.fn 1 (.pr N112 N168)) rfl
 have:=@t147_rng ρ _ _ _ _ _ _ _ _ p5 p7
 try simp only [smA,smW] at *
 grind
def F676:E:=(.imp N208 (.not (.cmp .lss N147 N192)))
theorem G676:Tr F676:=ii6 fun ρ p0 p1 p2 p3 p4 p5=>by
 have:=t117 p1
 have:=@t144_len ρ _ _ _ _ p0
 try simp only [smA,smW] at *
 obtain ⟨a5,ea5,qa5⟩:=cs_i64 ((E.I ρ N168) + (1))
 try simp only [ea5] at *
 grind
def F677:E:=(.imp (.and N180 (.and (.not (.cmp .lss (.int 3) N193)) (.and N194 (.and (.not N195) (.and (.not N196) (.and (.not N197) N198)))))) (.fn 147 (.pr N30 (.pr N129 (.pr N141 (.pr N209 N200))))))
theorem G677:Tr F677:=ii12 fun ρ p0 p1 p2 p3 p4 p5 p6 p7 p8 p9 p10 p11=>by
 have:=t117 p11
 have:=@wrap_add ρ N113 (.int 1)
 have:=@wrap_add ρ N168 (.int 1)
 have:=@t144_col ρ _ N168 _ _ _ p6 p10 (.fn 1 (.pr N112 N168)) rfl
 have:=@t144_len ρ _ _ _ _ p6
 have:=@t147_stepR ρ _ _ _ N192 _ _ _ _ _ _ N193 N209 p6 p10 p8 (.fn 1 (.pr N112 N168)) rfl
 have:=@t147_rng ρ _ _ _ _ _ _ _ _ p8 p10
 try simp only [smA,smW] at *
 grind
def F678:E:=(.imp N191 (.cmp .lss (.fn 7 (.pr N147 N192)) (.fn 7 (.pr N147 N168))))
theorem G678:Tr F678:=ii5 fun ρ p0 p1 p2 p3 p4=>by
 have:=t117 p1
 have:=@t144_len ρ _ _ _ _ p0
 try simp only [smA,smW] at *
 obtain ⟨a5,ea5,qa5⟩:=cs_i64 ((E.I ρ N168) + (1))
 try simp only [ea5] at *
 grind
def F679:E:=(.imp N208 (.not (.cmp .lss (.fn 7 (.pr N147 N192)) (.int 0))))
theorem G679:Tr F679:=ii6 fun ρ p0 p1 p2 p3 p4 p5=>by
 have:=t117 p1
 have:=@t144_len ρ _ _ _ _ p0
 try simp only [smA,smW] at *
 obtain ⟨a5,ea5,qa5⟩:=cs_i64 ((E.I ρ N168) + (1))
 try simp only [ea5] at *
 grind
namespace p41
def facts:List E:=[F546,F667,F668,F669,F670,F671,F672,F673,F674,F675,F676,F677,F678,F679]
theorem facts_ok:∀ e∈facts,Tr e:=(ac G546 (ac G667 (ac G668 (ac G669 (ac G670 (ac G671 (ac G672 (ac G673 (ac G674 (ac G675 (ac G676 (ac G677 (ac G678 (ac G679 all_nil))))))))))))))
end p41
theorem spec41_0:NatOk Try.prog (specNat (spYM)) :=
 spec_of_check good (facts:=p41.facts) p41.facts_ok (anns:=annYM) (plainAnns_ok _ (by kernel_rfl)) (nats:=natl42) natl42_ok (n:=3000) (by kernel_rfl)
def natl43:List Nat1:=specNat (spYM)::natl42
theorem natl43_ok:∀ x∈natl43,NatOk Try.prog x:=by
 intro x hx
 rcases List.mem_cons.1 hx with rfl | hx
 ·exact spec41_0
 exact natl42_ok x hx

def F680:E:=(.imp (.not N211) N216)
theorem G680:Tr F680:=ii1 fun ρ p0=>by
 try simp only [smA,smW] at *
 grind
def F681:E:=(.imp N211 N217)
theorem G681:Tr F681:=ii1 fun ρ p0=>by
 try simp only [smA,smW] at *
 omega
def F682:E:=(.fn 161 (.pr N6 (.pr N3 (.int 0))))
theorem G682:Tr F682:=fun ρ=>by
 unfold F682
 have:=@t161_zero ρ N6 N3 (.int 0)
 try simp only [smA,smW] at *
 grind
def F683:E:=(.imp (.and N218 N221) (.cmp .lss N37 N210))
theorem G683:Tr F683:=ii4 fun ρ p0 p1 p2 p3=>by
 try simp only [smA,smW] at *
 omega
def F684:E:=(.imp (.and (.not N218) (.and (.fn 161 (.pr N6 (.pr N3 N37))) (.and (.not (.cmp .lss N0 N37)) N217))) (.iff (.bool true) N215))
theorem G684:Tr F684:=ii4 fun ρ p0 p1 p2 p3=>by
 have:=@t161_eq ρ _ _ _ N0 p1
 try simp only [smA,smW] at *
 grind
def F685:E:=(.imp (.and N218 (.and (.not N222) (.and N223 N221))) N216)
theorem G685:Tr F685:=ii6 fun ρ p0 p1 p2 p3 p4 p5=>by
 have:=@t161_fail ρ N6 N3 N37 N0
 try simp only [smA,smW] at *
 grind
def F686:E:=(.imp N224 (.not (.cmp .lss N225 (.int 0))))
theorem G686:Tr F686:=ii7 fun ρ p0 p1 p2 p3 p4 p5 p6=>by
 try simp only [smA,smW] at *
 obtain ⟨a5,ea5,qa5⟩:=cs_i64 ((E.I ρ N37) + (1))
 try simp only [ea5] at *
 omega
def F687:E:=(.imp N224 (.not (.cmp .lss N0 N225)))
theorem G687:Tr F687:=ii7 fun ρ p0 p1 p2 p3 p4 p5 p6=>by
 try simp only [smA,smW] at *
 obtain ⟨a5,ea5,qa5⟩:=cs_i64 ((E.I ρ N37) + (1))
 try simp only [ea5] at *
 omega
def F688:E:=(.imp (.and N218 (.and N222 (.and (.fn 161 (.pr N6 (.pr N3 N37))) (.and N223 (.and N217 (.and (.not (.cmp .lss (.int 100) N210)) N220)))))) (.fn 161 (.pr N6 (.pr N3 N225))))
theorem G688:Tr F688:=ii8 fun ρ p0 p1 p2 p3 p4 p5 p6 p7=>by
 have:=@wrap_add ρ N37 (.int 1)
 have:=@t161_step ρ _ _ _ N225 p2
 try simp only [smA,smW] at *
 grind
def F689:E:=(.imp N224 (.cmp .lss (.fn 7 (.pr N0 N225)) (.fn 7 (.pr N0 N37))))
theorem G689:Tr F689:=ii7 fun ρ p0 p1 p2 p3 p4 p5 p6=>by
 try simp only [smA,smW] at *
 obtain ⟨a5,ea5,qa5⟩:=cs_i64 ((E.I ρ N37) + (1))
 try simp only [ea5] at *
 omega
def F690:E:=(.imp N224 (.not (.cmp .lss (.fn 7 (.pr N0 N225)) (.int 0))))
theorem G690:Tr F690:=ii7 fun ρ p0 p1 p2 p3 p4 p5 p6=>by
 try simp only [smA,smW] at *
 obtain ⟨a5,ea5,qa5⟩:=cs_i64 ((E.I ρ N37) + (1))
 try simp only [ea5] at *
 omega
namespace p42
def facts:List E:=[F680,F681,F682,F683,F684,F685,F686,F687,F688,F689,F690]
theorem facts_ok:∀ e∈facts,Tr e:=(ac G680 (ac G681 (ac G682 (ac G683 (ac G684 (ac G685 (ac G686 (ac G687 (ac G688 (ac G689 (ac G690 all_nil)))))))))))
end p42
theorem spec42_0:NatOk Try.prog (specNat (spIn)) :=
 spec_of_check good (facts:=p42.facts) p42.facts_ok (anns:=annIn) (plainAnns_ok _ (by kernel_rfl)) (nats:=natl43) natl43_ok (n:=3000) (by kernel_rfl)
def natl44:List Nat1:=specNat (spIn)::natl43
theorem natl44_ok:∀ x∈natl44,NatOk Try.prog x:=by
 intro x hx
 rcases List.mem_cons.1 hx with rfl | hx
 ·exact spec42_0
 exact natl43_ok x hx

def F691:E:=(.fn 155 (.pr N6 (.int 0)))
theorem G691:Tr F691:=fun ρ=>by
 unfold F691
 have:=@t155_zero ρ (.int 0) N6
 try simp only [smA,smW] at *
 grind
def F692:E:=(.imp N223 (.imp N212 N230))
theorem G692:Tr F692:=ii1 fun ρ p0=>by
 try simp only [smA,smW] at *
 grind
def F693:E:=(.fn 157 (.pr (.fn 1 (.pr N6 (.fn 6 (.pr (.fn 8 (.pr N37 (.int 14))) (.int 12))))) (.int 0)))
theorem G693:Tr F693:=fun ρ=>by
 unfold F693
 have:=@t157_zero ρ (.int 0) (.fn 1 (.pr N6 (.fn 6 (.pr (.fn 8 (.pr N37 (.int 14))) (.int 12)))))
 try simp only [smA,smW] at *
 grind
def F694:E:=(.imp (.and (.not (.cmp .lss N37 (.int 13))) N231) N232)
theorem G694:Tr F694:=ii2 fun ρ p0 p1=>by
 try simp only [smA,smW] at *
 grind
def F695:E:=(.imp (.and (.not N231) (.and (.fn 155 (.pr N6 N37)) (.not (.cmp .lss (.fn 9 (.pr N6 (.int 14))) N37)))) N232)
theorem G695:Tr F695:=ii3 fun ρ p0 p1 p2=>by
 have:=@t155_eq ρ N37 (.fn 9 (.pr N6 (.int 14))) N6
 try simp only [smA,smW] at *
 grind
def F696:E:=(.imp N237 N43)
theorem G696:Tr F696:=ii3 fun ρ p0 p1 p2=>by
 try simp only [smA,smW] at *
 obtain ⟨a6,ea6,qa6⟩:=cs_i64 ((E.I ρ N30) + (1))
 try simp only [ea6] at *
 grind
def F697:E:=(.imp N238 (.not (.cmp .lss N225 (.int 0))))
theorem G697:Tr F697:=ii2 fun ρ p0 p1=>by
 try simp only [smA,smW] at *
 obtain ⟨a5,ea5,qa5⟩:=cs_i64 ((E.I ρ N37) + (1))
 try simp only [ea5] at *
 grind
def F698:E:=(.imp N242 (.not (.cmp .lss (.fn 9 (.pr (.fn 1 (.pr N6 (.fn 6 (.pr (.fn 8 (.pr N37 (.int 14))) (.int 12))))) (.int 2))) N41)))
theorem G698:Tr F698:=ii4 fun ρ p0 p1 p2 p3=>by
 try simp only [smA,smW] at *
 obtain ⟨a6,ea6,qa6⟩:=cs_i64 ((E.I ρ N30) + (1))
 try simp only [ea6] at *
 grind
def F699:E:=(.imp N238 (.not (.cmp .lss (.int 13) N225)))
theorem G699:Tr F699:=ii2 fun ρ p0 p1=>by
 try simp only [smA,smW] at *
 obtain ⟨a5,ea5,qa5⟩:=cs_i64 ((E.I ρ N37) + (1))
 try simp only [ea5] at *
 grind
def F700:E:=(.imp (.and N233 (.and (.not (.cmp .lss (.int 5) (.fn 9 (.pr (.fn 1 (.pr (.fn 1 (.pr N6 (.fn 6 (.pr (.fn 8 (.pr N37 (.int 14))) (.int 12))))) (.fn 6 (.pr (.fn 8 (.pr N30 (.int 2))) (.int 1))))) (.int 5))))) (.and N244 N236))) (.fn 157 (.pr (.fn 1 (.pr N6 (.fn 6 (.pr (.fn 8 (.pr N37 (.int 14))) (.int 12))))) N41)))
theorem G700:Tr F700:=ii5 fun ρ p0 p1 p2 p3 p4=>by
 have:=@wrap_add ρ N30 (.int 1)
 have:=@t157_step ρ N30 N41 (.fn 1 (.pr N6 (.fn 6 (.pr (.fn 8 (.pr N37 (.int 14))) (.int 12)))))
 try simp only [smA,smW] at *
 grind
def F701:E:=(.imp (.and N231 N238) (.not (.cmp .lss (.fn 9 (.pr N6 (.int 14))) N225)))
theorem G701:Tr F701:=ii3 fun ρ p0 p1 p2=>by
 try simp only [smA,smW] at *
 obtain ⟨a5,ea5,qa5⟩:=cs_i64 ((E.I ρ N37) + (1))
 try simp only [ea5] at *
 grind
def F702:E:=(.imp N237 (.cmp .lss (.fn 7 (.pr (.fn 9 (.pr (.fn 1 (.pr N6 (.fn 6 (.pr (.fn 8 (.pr N37 (.int 14))) (.int 12))))) (.int 2))) N41)) (.fn 7 (.pr (.fn 9 (.pr (.fn 1 (.pr N6 (.fn 6 (.pr (.fn 8 (.pr N37 (.int 14))) (.int 12))))) (.int 2))) N30))))
theorem G702:Tr F702:=ii3 fun ρ p0 p1 p2=>by
 try simp only [smA,smW] at *
 obtain ⟨a6,ea6,qa6⟩:=cs_i64 ((E.I ρ N30) + (1))
 try simp only [ea6] at *
 grind
def F703:E:=(.imp (.and (.not N233) (.and N244 (.and N240 (.and N235 (.and (.not (.cmp .lss (.int 5) (.fn 9 (.pr (.fn 1 (.pr N6 (.fn 6 (.pr (.fn 8 (.pr N37 (.int 14))) (.int 11))))) (.int 5))))) (.and (.fn 155 (.pr N6 N37)) N238)))))) (.fn 155 (.pr N6 N225)))
theorem G703:Tr F703:=ii8 fun ρ p0 p1 p2 p3 p4 p5 p6 p7=>by
 have:=@wrap_add ρ N37 (.int 1)
 have:=@t155_step ρ N37 N225 N6
 have:=@z156 ρ (.fn 1 (.pr N6 (.fn 6 (.pr (.fn 8 (.pr N37 (.int 14))) (.int 11))))) (.fn 1 (.pr N6 (.fn 6 (.pr (.fn 8 (.pr N37 (.int 14))) (.int 12)))))
 have hy1:E.I ρ N30=E.I ρ (.fn 9 (.pr (.fn 1 (.pr N6 (.fn 6 (.pr (.fn 8 (.pr N37 (.int 14))) (.int 12))))) (.int 2)))→E.B ρ (.fn 157 (.pr (.fn 1 (.pr N6 (.fn 6 (.pr (.fn 8 (.pr N37 (.int 14))) (.int 12))))) (.fn 9 (.pr (.fn 1 (.pr N6 (.fn 6 (.pr (.fn 8 (.pr N37 (.int 14))) (.int 12))))) (.int 2)))))=true:=fun hh=>by rw [z157,← hh]; exact p1
 try simp only [smA,smW] at *
 grind
def F704:E:=(.imp N242 (.not (.cmp .lss (.fn 7 (.pr (.fn 9 (.pr (.fn 1 (.pr N6 (.fn 6 (.pr (.fn 8 (.pr N37 (.int 14))) (.int 12))))) (.int 2))) N41)) (.int 0))))
theorem G704:Tr F704:=ii4 fun ρ p0 p1 p2 p3=>by
 try simp only [smA,smW] at *
 obtain ⟨a6,ea6,qa6⟩:=cs_i64 ((E.I ρ N30) + (1))
 try simp only [ea6] at *
 grind
def F705:E:=(.imp N238 (.cmp .lss (.fn 7 (.pr (.int 13) N225)) (.fn 7 (.pr (.int 13) N37))))
theorem G705:Tr F705:=ii2 fun ρ p0 p1=>by
 try simp only [smA,smW] at *
 obtain ⟨a5,ea5,qa5⟩:=cs_i64 ((E.I ρ N37) + (1))
 try simp only [ea5] at *
 grind
def F706:E:=(.imp N238 (.not (.cmp .lss (.fn 7 (.pr (.int 13) N225)) (.int 0))))
theorem G706:Tr F706:=ii2 fun ρ p0 p1=>by
 try simp only [smA,smW] at *
 obtain ⟨a5,ea5,qa5⟩:=cs_i64 ((E.I ρ N37) + (1))
 try simp only [ea5] at *
 grind
namespace p43
def facts:List E:=[F691,F692,F693,F694,F695,F696,F697,F698,F699,F700,F701,F702,F703,F704,F705,F706]
theorem facts_ok:∀ e∈facts,Tr e:=(ac G691 (ac G692 (ac G693 (ac G694 (ac G695 (ac G696 (ac G697 (ac G698 (ac G699 (ac G700 (ac G701 (ac G702 (ac G703 (ac G704 (ac G705 (ac G706 all_nil))))))))))))))))
end p43
theorem spec43_0:NatOk Try.prog (specNat (spLi)) :=
 spec_of_check good (facts:=p43.facts) p43.facts_ok (anns:=annLi) (plainAnns_ok _ (by kernel_rfl)) (nats:=natl44) natl44_ok (n:=3000) (by kernel_rfl)
def natl45:List Nat1:=specNat (spLi)::natl44
theorem natl45_ok:∀ x∈natl45,NatOk Try.prog x:=by
 intro x hx
 rcases List.mem_cons.1 hx with rfl | hx
 ·exact spec43_0
 exact natl44_ok x hx

def F707:E:=(.imp N245 N246)
theorem G707:Tr F707:=ii1 fun ρ p0=>by
 try simp only [smA,smW] at *
 grind
def F708:E:=(.imp N247 N246)
theorem G708:Tr F708:=ii1 fun ρ p0=>by
 try simp only [smA,smW] at *
 grind
def F709:E:=(.imp N248 N246)
theorem G709:Tr F709:=ii1 fun ρ p0=>by
 try simp only [smA,smW] at *
 grind
def F710:E:=(.imp N249 N246)
theorem G710:Tr F710:=ii1 fun ρ p0=>by
 try simp only [smA,smW] at *
 grind
def F711:E:=(.imp N250 N246)
theorem G711:Tr F711:=ii1 fun ρ p0=>by
 try simp only [smA,smW] at *
 grind
def F712:E:=(.imp N251 N246)
theorem G712:Tr F712:=ii1 fun ρ p0=>by
 try simp only [smA,smW] at *
 grind
def F713:E:=(.imp N252 N246)
theorem G713:Tr F713:=ii1 fun ρ p0=>by
 try simp only [smA,smW] at *
 grind
def F714:E:=(.imp N253 N246)
theorem G714:Tr F714:=ii1 fun ρ p0=>by
 try simp only [smA,smW] at *
 grind
def F715:E:=(.imp (.and (.not N245) (.and (.not N247) (.and (.not N248) (.and (.not N249) (.and (.not N250) (.and (.not N251) (.and (.not N252) (.not N253)))))))) (.fn 159 N6))
theorem G715:Tr F715:=ii8 fun ρ p0 p1 p2 p3 p4 p5 p6 p7=>by
 have:=@z159 ρ N6
 try simp only [smA,smW] at *
 grind
def F716:E:=(.imp (.not N245) (.imp N212 N258))
theorem G716:Tr F716:=ii1 fun ρ p0=>by
 try simp only [smA,smW] at *
 grind
def F717:E:=(.imp (.not N245) (.imp N212 N263))
theorem G717:Tr F717:=ii1 fun ρ p0=>by
 try simp only [smA,smW] at *
 grind
def F718:E:=(.imp (.fn 159 N6) N246)
theorem G718:Tr F718:=ii1 fun ρ p0=>by
 try simp only [smA,smW] at *
 grind
def F719:E:=(.imp N264 N264)
theorem G719:Tr F719:=ii1 fun ρ p0=>by
 try simp only [smA,smW] at *
 grind
def F720:E:=(.imp (.and N266 (.and (.not (.cmp .lss (.int 30) (.fn 9 (.pr (.fn 1 (.pr N6 (.int 0))) (.int 12))))) (.and (.not (.cmp .lss (.int 30) (.fn 0 (.fn 1 (.pr N6 (.int 31)))))) (.and N267 (.and N264 (.fn 159 N6)))))) (.imp (.not (.cmp .lss (.int 30) (.fn 9 (.pr (.fn 1 (.pr N6 (.int 32))) (.int 2))))) (.fn 117 N6)))
theorem G720:Tr F720:=ii6 fun ρ p0 p1 p2 p3 p4 p5=>by
 have:=@z117s ρ N6
 try simp only [smA,smW] at *
 grind
def F721:E:=(.imp N267 N267)
theorem G721:Tr F721:=ii1 fun ρ p0=>by
 try simp only [smA,smW] at *
 grind
def F722:E:=(.fn 158 (.pr (.fn 1 (.pr N6 (.int 29))) (.int 0)))
theorem G722:Tr F722:=fun ρ=>by
 unfold F722
 have:=@t158_zero ρ (.fn 1 (.pr N6 (.int 29))) (.int 0)
 try simp only [smA,smW] at *
 grind
def F723:E:=(.fn 158 (.pr (.fn 1 (.pr N6 (.int 30))) (.int 0)))
theorem G723:Tr F723:=fun ρ=>by
 unfold F723
 have:=@t158_zero ρ (.fn 1 (.pr N6 (.int 30))) (.int 0)
 try simp only [smA,smW] at *
 grind
def F724:E:=(.imp N270 N43)
theorem G724:Tr F724:=ii3 fun ρ p0 p1 p2=>by
 try simp only [smA,smW] at *
 obtain ⟨a4,ea4,qa4⟩:=cs_i64 ((E.I ρ N30) + (1))
 try simp only [ea4] at *
 grind
def F725:E:=(.imp (.and (.not N268) (.and N272 (.and (.not (.cmp .lss (.fn 9 (.pr (.fn 1 (.pr N6 (.int 29))) (.int 5))) N30)) N255))) N273)
theorem G725:Tr F725:=ii4 fun ρ p0 p1 p2 p3=>by
 have:=@t158_eq ρ (.fn 1 (.pr N6 (.int 29))) N30 (.fn 9 (.pr (.fn 1 (.pr N6 (.int 29))) (.int 5)))
 try simp only [smA,smW] at *
 obtain ⟨a4,ea4,qa4⟩:=cs_i64 ((E.I ρ N37) + (1))
 try simp only [ea4] at *
 grind
def F726:E:=(.imp N276 N43)
theorem G726:Tr F726:=ii3 fun ρ p0 p1 p2=>by
 try simp only [smA,smW] at *
 obtain ⟨a4,ea4,qa4⟩:=cs_i64 ((E.I ρ N30) + (1))
 try simp only [ea4] at *
 grind
def F727:E:=(.imp (.and (.cmp .eql N37 (.int 1)) N264) N273)
theorem G727:Tr F727:=ii2 fun ρ p0 p1=>by
 try simp only [smA,smW] at *
 obtain ⟨a3,ea3,qa3⟩:=cs_i64 ((E.I ρ N37) + (1))
 try simp only [ea3] at *
 grind
def F728:E:=(.imp (.and N268 N36) (.not (.cmp .lss (.fn 9 (.pr (.fn 1 (.pr N6 (.int 29))) (.int 5))) N41)))
theorem G728:Tr F728:=ii2 fun ρ p0 p1=>by
 try simp only [smA,smW] at *
 obtain ⟨a4,ea4,qa4⟩:=cs_i64 ((E.I ρ N30) + (1))
 try simp only [ea4] at *
 grind
def F729:E:=(.imp (.and (.not (.cmp .lss (.int 2) N37)) (.and N223 (.cmp .eql N37 (.int 0)))) N277)
theorem G729:Tr F729:=ii3 fun ρ p0 p1 p2=>by
 try simp only [smA,smW] at *
 obtain ⟨a3,ea3,qa3⟩:=cs_i64 ((E.I ρ N37) + (1))
 try simp only [ea3] at *
 grind
def F730:E:=(.imp (.and (.not N274) (.and N279 (.and (.not (.cmp .lss (.fn 9 (.pr (.fn 1 (.pr N6 (.int 30))) (.int 5))) N30)) N260))) N277)
theorem G730:Tr F730:=ii4 fun ρ p0 p1 p2 p3=>by
 have:=@t158_eq ρ (.fn 1 (.pr N6 (.int 30))) N30 (.fn 9 (.pr (.fn 1 (.pr N6 (.int 30))) (.int 5)))
 try simp only [smA,smW] at *
 obtain ⟨a4,ea4,qa4⟩:=cs_i64 ((E.I ρ N37) + (1))
 try simp only [ea4] at *
 grind
def F731:E:=(.imp (.and N268 (.and (.not (.cmp .lss (.int 6) (.fn 9 (.pr (.fn 1 (.pr (.fn 1 (.pr N6 (.int 29))) (.fn 6 (.pr (.fn 8 (.pr N30 (.int 5))) (.int 4))))) (.int 2))))) (.and N36 (.and N272 N255)))) (.fn 158 (.pr (.fn 1 (.pr N6 (.int 29))) N41)))
theorem G731:Tr F731:=ii5 fun ρ p0 p1 p2 p3 p4=>by
 have:=@wrap_add ρ N30 (.int 1)
 have:=@t158_step ρ (.fn 1 (.pr N6 (.int 29))) N30 N41
 try simp only [smA,smW] at *
 grind
def F732:E:=(.imp (.and N274 (.and (.not (.cmp .lss (.int 6) (.fn 9 (.pr (.fn 1 (.pr (.fn 1 (.pr N6 (.int 30))) (.fn 6 (.pr (.fn 8 (.pr N30 (.int 5))) (.int 4))))) (.int 2))))) (.and N279 N275))) (.fn 158 (.pr (.fn 1 (.pr N6 (.int 30))) N41)))
theorem G732:Tr F732:=ii5 fun ρ p0 p1 p2 p3 p4=>by
 have:=@wrap_add ρ N30 (.int 1)
 have:=@t158_step ρ (.fn 1 (.pr N6 (.int 30))) N30 N41
 try simp only [smA,smW] at *
 grind
def F733:E:=(.imp N270 (.cmp .lss (.fn 7 (.pr (.fn 9 (.pr (.fn 1 (.pr N6 (.int 29))) (.int 5))) N41)) (.fn 7 (.pr (.fn 9 (.pr (.fn 1 (.pr N6 (.int 29))) (.int 5))) N30))))
theorem G733:Tr F733:=ii3 fun ρ p0 p1 p2=>by
 try simp only [smA,smW] at *
 obtain ⟨a4,ea4,qa4⟩:=cs_i64 ((E.I ρ N30) + (1))
 try simp only [ea4] at *
 grind
def F734:E:=(.imp N276 (.cmp .lss (.fn 7 (.pr (.fn 9 (.pr (.fn 1 (.pr N6 (.int 30))) (.int 5))) N41)) (.fn 7 (.pr (.fn 9 (.pr (.fn 1 (.pr N6 (.int 30))) (.int 5))) N30))))
theorem G734:Tr F734:=ii3 fun ρ p0 p1 p2=>by
 try simp only [smA,smW] at *
 obtain ⟨a4,ea4,qa4⟩:=cs_i64 ((E.I ρ N30) + (1))
 try simp only [ea4] at *
 grind
def F735:E:=(.imp (.and N268 N36) (.not (.cmp .lss (.fn 7 (.pr (.fn 9 (.pr (.fn 1 (.pr N6 (.int 29))) (.int 5))) N41)) (.int 0))))
theorem G735:Tr F735:=ii2 fun ρ p0 p1=>by
 try simp only [smA,smW] at *
 obtain ⟨a4,ea4,qa4⟩:=cs_i64 ((E.I ρ N30) + (1))
 try simp only [ea4] at *
 grind
namespace p44
def facts:List E:=[F707,F708,F709,F710,F711,F712,F713,F714,F715,F716,F717,F718,F719,F720,F721,F722,F723,F74,F79,F85,F90,F724,F725,F726,F727,F728,F729,F434,F730,F731,F101,F732,F102,F733,F109,F734,F110,F735,F439]
theorem facts_ok:∀ e∈facts,Tr e:=(ac G707 (ac G708 (ac G709 (ac G710 (ac G711 (ac G712 (ac G713 (ac G714 (ac G715 (ac G716 (ac G717 (ac G718 (ac G719 (ac G720 (ac G721 (ac G722 (ac G723 (ac G74 (ac G79 (ac G85 (ac G90 (ac G724 (ac G725 (ac G726 (ac G727 (ac G728 (ac G729 (ac G434 (ac G730 (ac G731 (ac G101 (ac G732 (ac G102 (ac G733 (ac G109 (ac G734 (ac G110 (ac G735 (ac G439 all_nil)))))))))))))))))))))))))))))))))))))))
end p44
theorem spec44_0:NatOk Try.prog (specNat (spSm)) :=
 spec_of_check good (facts:=p44.facts) p44.facts_ok (anns:=annSm) (plainAnns_ok _ (by kernel_rfl)) (nats:=natl45) natl45_ok (n:=3000) (by kernel_rfl)
def natl46:List Nat1:=specNat (spSm)::natl45
theorem natl46_ok:∀ x∈natl46,NatOk Try.prog x:=by
 intro x hx
 rcases List.mem_cons.1 hx with rfl | hx
 ·exact spec44_0
 exact natl45_ok x hx

def F736:E:=(.imp (.and (.iff N280 N281) N282) (.not N280))
theorem G736:Tr F736:=ii2 fun ρ p0 p1=>by
 try simp only [smA,smW] at *
 grind
def F737:E:=(.imp (.and (.iff N283 N281) N282) (.not N283))
theorem G737:Tr F737:=ii2 fun ρ p0 p1=>by
 try simp only [smA,smW] at *
 grind
def F738:E:=(.imp (.and (.iff (.var 7) N281) N282) (.not (.var 7)))
theorem G738:Tr F738:=ii2 fun ρ p0 p1=>by
 try simp only [smA,smW] at *
 grind
def F739:E:=(.imp (.and (.iff N37 N281) N282) (.not N37))
theorem G739:Tr F739:=ii2 fun ρ p0 p1=>by
 try simp only [smA,smW] at *
 grind
def F740:E:=(.imp (.and (.iff N22 N281) N282) (.not N22))
theorem G740:Tr F740:=ii2 fun ρ p0 p1=>by
 try simp only [smA,smW] at *
 grind
def F741:E:=(.imp (.and (.iff N56 N281) N282) (.not N56))
theorem G741:Tr F741:=ii2 fun ρ p0 p1=>by
 try simp only [smA,smW] at *
 grind
def F742:E:=(.imp (.and (.iff N12 N281) N282) (.not N12))
theorem G742:Tr F742:=ii2 fun ρ p0 p1=>by
 try simp only [smA,smW] at *
 grind
def F743:E:=(.imp (.and (.iff (.var 12) N281) N282) (.not (.var 12)))
theorem G743:Tr F743:=ii2 fun ρ p0 p1=>by
 try simp only [smA,smW] at *
 grind
def F744:E:=(.imp N285 N227)
theorem G744:Tr F744:=ii2 fun ρ p0 p1=>by
 try simp only [smA,smW] at *
 grind
def F745:E:=(.imp N285 N229)
theorem G745:Tr F745:=ii2 fun ρ p0 p1=>by
 try simp only [smA,smW] at *
 grind
def F746:E:=(.imp (.and N118 (.and (.iff N22 N281) (.not N22))) (.and (.cmp .eql N280 (.int 0)) (.and (.cmp .eql N283 (.int 0)) (.and (.cmp .eql (.var 7) (.int 0)) (.and (.cmp .eql N37 (.int 0)) (.bool true))))))
theorem G746:Tr F746:=ii3 fun ρ p0 p1 p2=>by
 have:=@z146 ρ (.int 0) (.int 0) (.int 0) (.int 0) (.int 0)
 try simp only [smA,smW] at *
 grind
def F747:E:=(.imp N118 (.not (.cmp .lss N1 (.int 0))))
theorem G747:Tr F747:=ii1 fun ρ p0=>by
 have:=@z145 ρ N1 N0
 try simp only [smA,smW] at *
 grind
def F748:E:=(.imp (.and N118 (.iff (.var 12) N281)) (.var 12))
theorem G748:Tr F748:=ii2 fun ρ p0 p1=>by
 have:=@z146 ρ (.int 0) (.int 0) (.int 0) (.int 0) (.int 0)
 try simp only [smA,smW] at *
 grind
def F749:E:=(.imp N118 (.not (.cmp .lss (.int 1) N1)))
theorem G749:Tr F749:=ii1 fun ρ p0=>by
 have:=@z145 ρ N1 N0
 try simp only [smA,smW] at *
 grind
def F750:E:=(.imp (.and (.fn 147 (.pr N280 (.pr N283 (.pr (.var 7) (.pr N37 N177))))) (.fn 147 (.pr N56 (.pr N12 (.pr (.var 12) (.pr (.var 13) N177)))))) (.and (.cmp .eql N280 N56) (.and (.cmp .eql N283 N12) (.and (.cmp .eql (.var 7) (.var 12)) (.and (.cmp .eql N37 (.var 13)) (.bool true))))))
theorem G750:Tr F750:=ii2 fun ρ p0 p1=>by
 have:=@t147_same ρ _ _ _ _ _ _ _ _ _ _ _ _ p0 p1
 try simp only [smA,smW] at *
 grind
def F751:E:=(.imp (.and (.imp N118 N128) (.and N118 (.and (.fn 144 (.pr N56 (.pr N6 (.pr N0 N1)))) (.cmp .eql (.fn 0 N56) N12)))) N24)
theorem G751:Tr F751:=ii4 fun ρ p0 p1 p2 p3=>by
 have hln10:E.I ρ (.fn 0 (.fn 10 (.int 0)))=0:=rfl
 have:=@t144_same ρ (.fn 10 (.int 0)) N56 N1 (.int 0) N0 N6
 try simp only [smA,smW] at *
 grind
def F752:E:=(.imp (.and N286 (.and (.cmp .eql (.fn 0 N280) N283) (.not (.cmp .lss N283 (.int 1))))) (.not N128))
theorem G752:Tr F752:=ii3 fun ρ p0 p1 p2=>by
 have hln5:E.I ρ (.fn 0 (.fn 10 (.int 0)))=0:=rfl
 have:=@t144_same ρ (.fn 10 (.int 0)) N280 N1 (.int 0) N0 N6
 try simp only [smA,smW] at *
 grind
def F753:E:=(.imp (.and N286 (.and (.cmp .eql (.fn 0 N280) N283) (.and (.fn 144 (.pr (.var 13) (.pr N6 (.pr N0 N1)))) (.and (.cmp .eql (.fn 0 (.var 13)) (.var 14)) (.iff N30 (.and (.cmp .eql N283 (.var 14)) (.fn 161 (.pr N280 (.pr (.var 13) N283))))))))) N30)
theorem G753:Tr F753:=ii5 fun ρ p0 p1 p2 p3 p4=>by
 have:=@t144_same ρ _ _ _ N283 _ _ p0 p2
 try simp only [smA,smW] at *
 grind
def F754:E:=(.imp (.and (.fn 147 (.pr N37 (.pr N22 (.pr N56 (.pr N12 N177))))) (.fn 147 (.pr N129 (.pr N141 (.pr N113 (.pr N112 N177)))))) (.and (.cmp .eql N37 N129) (.and (.cmp .eql N22 N141) (.and (.cmp .eql N56 N113) (.and (.cmp .eql N12 N112) (.bool true))))))
theorem G754:Tr F754:=ii2 fun ρ p0 p1=>by
 have:=@t147_same ρ _ _ _ _ _ _ _ _ _ _ _ _ p0 p1
 try simp only [smA,smW] at *
 grind
namespace m
def facts:List E:=[F736,F737,F738,F739,F740,F741,F742,F743,F744,F745,F746,F747,F748,F749,F750,F751,F752,F753,F754]
theorem facts_ok:∀ e∈facts,Tr e:=(ac G736 (ac G737 (ac G738 (ac G739 (ac G740 (ac G741 (ac G742 (ac G743 (ac G744 (ac G745 (ac G746 (ac G747 (ac G748 (ac G749 (ac G750 (ac G751 (ac G752 (ac G753 (ac G754 all_nil)))))))))))))))))))
end m
theorem reckoned:withTab Try.prog (fun tb=>checkAll outTrue (run Try.prog (tb.plus m.facts [] natl46) 3000 (.call 3 args) .nil (varSt 3 pc0) SX.one))=true:=by kernel_rfl

theorem walk {H:Type} (W:World) (base:Nat) (enc:TypeId × Value→H) (v0:Value) (d0:DataW H) (p0:List MemPlace) (v1:Value) (d1:DataW H) (p1:List MemPlace) (v2:Value) (d2:DataW H) (p2:List MemPlace)
  (o0:Value.okWide Try.prog W .any base 22 v0) (h0:DataW.Trod enc Try.prog W 0 (fun _=>true) true 22 v0 d0 p0)
  (o1:Value.okWide Try.prog W .any base 34 v1) (h1:DataW.Trod enc Try.prog W 0 (fun _=>true) true 34 v1 d1 p1)
  (o2:Value.okWide Try.prog W .any base 3 v2) (h2:DataW.Trod enc Try.prog W 0 (fun _=>true) true 3 v2 d2 p2) :
  Calls Try.prog 3 #[v0,v1,v2] W fun e W'=>e=.returned (.bool true)∧Below W.heap.size W W':=by
 obtain ⟨x0,rfl,k0,w0⟩:=open_slc (n:=9) (ks:=kC) Try.underlying22 (by kernel_rfl) o0 h0
 obtain ⟨x1,rfl,l1,k1,w1,s1⟩:=open_row bulkOk (n:=9) (ks:=kB) Try.underlying34 (by kernel_rfl) o1 h1
 obtain ⟨x2,rfl,_,_,w2⟩:=open_int Try.underlying3 o2 h2
 have r2:=wf_i64 w2
 have q0:=typ_slc w0
 refine true_of_check2 good (facts:=m.facts) m.facts_ok (anns:=[]) (plainAnns_ok _ (by kernel_rfl)) natl46_ok (vs:=[x0,.lst x1,.int x2]) (pc:=pc0) reckoned ?_ W ⟨k0,⟨⟨k1 0 _ rfl,trivial,trivial,trivial,trivial,trivial,k1 6 _ rfl,k1 7 _ rfl,k1 8 _ rfl,k1 9 _ rfl,trivial,trivial,trivial,trivial,trivial,trivial,trivial,trivial,trivial,trivial,k1 20 _ rfl,k1 21 _ rfl,k1 22 _ rfl,k1 23 _ rfl,trivial,trivial,trivial,trivial,trivial,k1 29 _ rfl,k1 30 _ rfl,k1 31 _ rfl,k1 32 _ rfl,trivial,trivial,trivial,trivial,trivial,trivial⟩,⟨trivial,trivial⟩⟩⟩
 unfold pc0
 try simp only [u64R,i64R,List.cons_append,List.nil_append]
 repeat' (refine pc_cons ?_ ?_)
 all_goals first
  | exact pc_nil
  | (exact ty_board l1 w1)
  | (first | exact q0 | skip; done)
  | (simp only [eLe,eLt,eV,Env.of,sm_I_int,sm_I_var,sm_B_lss,sm_B_not,getD_cons_zero,getD_cons_succ,toI_int]; omega)

set_option maxRecDepth 100000 in
theorem lifted (os : Os) (started : os.Started) (H : Type) (enc : TypeId × Value → H) :
    ReturnsInHanded {} Try.checked os 3 .any (Rows.paySourcesSpec.pre6 enc Try.prog Try.f3 Rows.paySourcesRow.domain false) (Rows.paySourcesSpec.post enc Try.prog Try.f3 false true false false) := by
  refine returnsInHanded_of_change (C := Try.checked) own started (by kernel_rfl) Try.func3
    (ChangeSpec.witness6 (enc := enc) (C := Try.checked) false ⟨#[], #[.slice none 0 0, .agg #[.slice none 0 0, .int .i64 0, .int .i64 0, .int .i64 0, .int .i64 0, .int .i64 0, .slice none 0 0, .slice none 0 0, .slice none 0 0, .slice none 0 0, .bool false, .bool false, .bool false, .int .i64 0, .int .i64 0, .int .i64 0, .int .i64 0, .int .i64 0, .int .i64 0, .int .i64 0, .slice none 0 0, .slice none 0 0, .slice none 0 0, .slice none 0 0, .bool false, .bool false, .bool false, .int .i64 0, .int .i64 0, .slice none 0 0, .slice none 0 0, .slice none 0 0, .slice none 0 0, .int .i64 0, .int .i64 0, .int .i64 0, .int .i64 0, .int .i64 0], .int .i64 0], []⟩ 8 (by kernel_rfl) (by kernel_rfl) (by kernel_rfl) (by kernel_rfl)) ?_
  intro W base args ds gs before hval0 hW hcnd _
  have hval : ∀ (j : Nat) t v, Try.f3.params[j]? = some t → args[j]? = some v → Value.okWide Try.prog W .any base t v := hval0
  have hW' := hW
  obtain ⟨p, q, hA0, hV, rfl, hfz, hnd⟩ := hW
  have hA : DataW.TrodAll enc Try.prog W 0 (fun _ => true) true Try.f3.params.toList args.toList ds p := hA0
  rw [Try.params3] at hA hval
  obtain ⟨v0, vs0, d0, ds0, p0, q0, hargs, rfl, rfl, h0, r0⟩ := trodAll_cons hA
  obtain ⟨v1, vs1, d1, ds1, p1, q1, rfl, rfl, rfl, h1, r1⟩ := trodAll_cons r0
  obtain ⟨v2, vs2, d2, ds2, p2, q2, rfl, rfl, rfl, h2, r2⟩ := trodAll_cons r1
  obtain ⟨rfl, rfl, rfl⟩ := trodAll_nil r2
  obtain rfl : args = #[v0, v1, v2] := by cases args; simp_all
  obtain ⟨rfl, rfl⟩ := trodVars_none hV
  have lt0 : ∀ x ∈ p0, x.block < W.heap.size := by obtain ⟨m, hm⟩ := h0; exact DataW.trod_lt m _ _ _ hm
  have lt1 : ∀ x ∈ p1, x.block < W.heap.size := by obtain ⟨m, hm⟩ := h1; exact DataW.trod_lt m _ _ _ hm
  have lt2 : ∀ x ∈ p2, x.block < W.heap.size := by obtain ⟨m, hm⟩ := h2; exact DataW.trod_lt m _ _ _ hm
  have o0 := hval 0 22 v0 rfl rfl
  have o1 := hval 1 34 v1 rfl rfl
  have o2 := hval 2 3 v2 rfl rfl
  clear hA0 hval0
  refine (walk W base enc v0 d0 p0 v1 d1 p1 v2 d2 p2 o0 h0 o1 h1 o2 h2).mono fun e W' ⟨he, bel⟩ => ?_
  subst he
  exact ⟨_, rfl, _, _, _, [], _, [], hW', trodAll_mk1 (shut_bool Try.underlying4 _), (trodAll_cons_mk (Below.trod laidOut (by kernel_rfl) (of_decide_eq_true (by kernel_rfl)) h0 bel lt0) (trodAll_cons_mk (Below.trod laidOut (by kernel_rfl) (of_decide_eq_true (by kernel_rfl)) h1 bel lt1) (trodAll_cons_mk (Below.trod laidOut (by kernel_rfl) (of_decide_eq_true (by kernel_rfl)) h2 bel lt2) trodAll_mk0))), rfl, bel.frame _, fun h => by cases h⟩

theorem over:Rows.paySourcesRow.holds Try.pinned (OpenSpec.ofChange Rows.paySourcesSpec) :=
 OpenClaim.holds_of_wide 3 Try.f3 rfl rfl rfl rfl rfl rfl rfl ⟨rfl,rfl,rfl,rfl,rfl⟩ rfl rfl rfl rfl rfl (by kernel_rfl) Try.func3 (by kernel_rfl)
  (of_decide_eq_true (by kernel_rfl)) (by unfold Func.isWrapper; first | (rw [if_pos (by decide +kernel)]; kernel_rfl) | (rw [if_neg (by decide +kernel)]; exact ⟨rfl,rfl⟩))
  (fun os started H enc _=>lifted os started H enc)

theorem proved:Rows.PaySourcesSaid:=over

end
end Go.Proofs.Ytnnbmcfabojjjaa.paySources
