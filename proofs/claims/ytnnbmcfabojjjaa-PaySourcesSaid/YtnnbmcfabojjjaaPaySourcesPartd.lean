/-
  PaySources: contracts of functions, part 4.
-/
import Derived.Test.YtnnbmcfabojjjaaRows
import Derived.Test.YtnnbmcfabojjjaaTheory
import Derived.WalkKit
import Derived.ProofKit
import Derived.OpenShut
import Derived.ChangeOld
import Derived.Below
import Derived.KernelRfl
import Derived.Lib.SmallJoins
import Derived.Test.YtnnbmcfabojjjaaPaySourcesPartc
namespace Go.Proofs.Ytnnbmcfabojjjaa.paySources
open Go.ChangeShapes Go.WideShapes Go.ChangeAt Go.RowKit
open Go.SX
set_option linter.unusedVariables false
set_option linter.unusedSimpArgs false
set_option maxRecDepth 100000
noncomputable section
abbrev Y0:E:=.var 4
abbrev Y1:E:=.cmp .lss (.int 4) (.fn 9 (.pr Y0 (.int 2)))
abbrev Y2:E:=.var 0
abbrev Y3:E:=.var 1
abbrev Y4:E:=.var 2
abbrev Y5:E:=.var 3
abbrev Y6:E:=.var 5
abbrev Y7:E:=.pr Y3 (.pr Y4 (.pr Y5 (.pr Y0 Y6)))
abbrev Y8:E:=.pr Y2 Y7
abbrev Y9:E:=.fn 102 Y8
abbrev Y10:E:=.iff (.bool false) Y9
abbrev Y11:E:=.cmp .lss (.int 0) (.fn 9 (.pr Y0 (.int 2)))
abbrev Y12:E:=.cmp .lss Y5 (.int 0)
abbrev Y13:E:=.not Y12
abbrev Y14:E:=.imp Y13 (.cmp .eql (.fn 9 (.pr Y0 (.int 2))) (.int 0))
abbrev Y15:E:=.not Y1
abbrev Y16:E:=.cmp .lss (.int 1) Y5
abbrev Y17:E:=.not Y16
abbrev Y18:E:=.cmp .lss (.int 399) Y4
abbrev Y19:E:=.not Y18
abbrev Y20:E:=.cmp .lss Y4 (.int 0)
abbrev Y21:E:=.not Y20
abbrev Y22:E:=.cmp .lss (.int 500) Y3
abbrev Y23:E:=.not Y22
abbrev Y24:E:=.cmp .lss Y3 (.int 1)
abbrev Y25:E:=.not Y24
abbrev Y26:E:=.cmp .lss (.int 1) Y2
abbrev Y27:E:=.not Y26
abbrev Y28:E:=.cmp .lss Y2 (.int 0)
abbrev Y29:E:=.not Y28
abbrev Y30:E:=.and Y27 Y29
abbrev Y31:E:=.and Y25 Y30
abbrev Y32:E:=.and Y23 Y31
abbrev Y33:E:=.and Y21 Y32
abbrev Y34:E:=.and Y19 Y33
abbrev Y35:E:=.cmp .lss Y5 (.int (-1))
abbrev Y36:E:=.not Y35
abbrev Y37:E:=.imp Y6 Y13
abbrev Y38:E:=.var 8
abbrev Y39:E:=.cmp .lss Y38 (.fn 9 (.pr Y0 (.int 2)))
abbrev Y40:E:=.cmp .lss (.fn 1 (.pr Y0 (.fn 6 (.pr (.fn 8 (.pr Y38 (.int 2))) (.int 0))))) (.int 0)
abbrev Y41:E:=.not Y40
abbrev Y42:E:=.cmp .lss (.fn 1 (.pr Y0 (.fn 6 (.pr (.fn 8 (.pr Y38 (.int 2))) (.int 1))))) (.int 0)
abbrev Y43:E:=.cmp .lss (.int 1) (.fn 1 (.pr Y0 (.fn 6 (.pr (.fn 8 (.pr Y38 (.int 2))) (.int 1)))))
abbrev Y44:E:=.cmp .lss (.int 0) (.fn 1 (.pr Y0 (.fn 6 (.pr (.fn 8 (.pr Y38 (.int 2))) (.int 0)))))
abbrev Y45:E:=.cmp .eql (.fn 1 (.pr Y0 (.fn 6 (.pr (.fn 8 (.pr Y38 (.int 2))) (.int 1))))) (.int 0)
abbrev Y46:E:=.cmp .lss (.int 500) (.fn 1 (.pr Y0 (.fn 6 (.pr (.fn 8 (.pr Y38 (.int 2))) (.int 0)))))
abbrev Y47:E:=.not (.cmp .lss Y38 (.int 0))
abbrev Y48:E:=.and Y36 Y34
abbrev Y49:E:=.and Y17 Y48
abbrev Y50:E:=.and Y15 Y49
abbrev Y51:E:=.fn 101 (.pr Y0 Y38)
abbrev Y52:E:=.and Y47 Y15
abbrev Y53:E:=.ar .add .i64 Y38 (.int 1)
abbrev Y54:E:=.cmp .lss Y53 (.int 0)
abbrev Y55:E:=.not Y54
abbrev Y56:E:=.and Y51 Y52
abbrev Y57:E:=.and (.not Y46) Y56
abbrev Y58:E:=.cmp .lss Y38 (.fn 0 Y2)
abbrev Y59:E:=.cmp .lss (.int 1000) (.fn 0 Y2)
abbrev Y60:E:=.not Y59
abbrev Y61:E:=.and Y47 Y60
abbrev Y62:E:=.and Y58 Y61
abbrev Y63:E:=.var 9
abbrev Y64:E:=.cmp .eql Y63 (.fn 131 (.pr Y2 (.pr Y3 Y38)))
abbrev Y65:E:=.cmp .lss Y38 Y63
abbrev Y66:E:=.not Y65
abbrev Y67:E:=.cmp .eql (.fn 1 (.pr Y2 Y38)) Y3
abbrev Y68:E:=.cmp .lss Y63 (.int 0)
abbrev Y69:E:=.not Y68
abbrev Y70:E:=.and Y64 Y61
abbrev Y71:E:=.and Y69 Y70
abbrev Y72:E:=.and Y66 Y71
abbrev Y73:E:=.ar .add .i64 Y63 (.int 1)
abbrev Y74:E:=.and Y58 Y72
abbrev Y75:E:=.cmp .lss Y38 (.fn 9 (.pr (.fn 1 (.pr Y2 (.int 0))) (.int 12)))
abbrev Y76:E:=.cmp .eql (.fn 1 (.pr (.fn 1 (.pr Y2 (.int 0))) (.fn 6 (.pr (.fn 8 (.pr Y38 (.int 12))) (.int 0))))) Y3
abbrev Y77:E:=.cmp .eql (.fn 120 (.pr Y2 (.pr Y3 Y38))) (.int (-1))
abbrev Y78:E:=.fn 117 Y2
abbrev Y79:E:=.and Y75 Y47
abbrev Y80:E:=.cmp .lss (.fn 0 (.fn 1 (.pr Y2 (.int 6)))) Y5
abbrev Y81:E:=.not Y80
abbrev Y82:E:=.cmp .eql Y5 (.fn 121 (.pr (.fn 1 (.pr Y2 (.int 6))) Y4))
abbrev Y83:E:=.cmp .lss (.fn 0 (.fn 1 (.pr Y2 (.int 7)))) Y0
abbrev Y84:E:=.not Y83
abbrev Y85:E:=.cmp .lss Y0 (.int 0)
abbrev Y86:E:=.not Y85
abbrev Y87:E:=.cmp .eql Y0 (.fn 121 (.pr (.fn 1 (.pr Y2 (.int 7))) Y4))
abbrev Y88:E:=.cmp .lss (.fn 0 (.fn 1 (.pr Y2 (.int 8)))) Y6
abbrev Y89:E:=.not Y88
abbrev Y90:E:=.not (.cmp .lss Y6 (.int 0))
abbrev Y91:E:=.cmp .eql Y6 (.fn 121 (.pr (.fn 1 (.pr Y2 (.int 8))) Y4))
abbrev Y92:E:=.var 6
abbrev Y93:E:=.cmp .lss (.fn 0 (.fn 1 (.pr Y2 (.int 9)))) Y92
abbrev Y94:E:=.not Y93
abbrev Y95:E:=.not (.cmp .lss Y92 (.int 0))
abbrev Y96:E:=.cmp .eql Y92 (.fn 121 (.pr (.fn 1 (.pr Y2 (.int 9))) Y4))
abbrev Y97:E:=.and Y96 Y78
abbrev Y98:E:=.and Y95 Y97
abbrev Y99:E:=.and Y94 Y98
abbrev Y100:E:=.and Y91 Y99
abbrev Y101:E:=.and Y90 Y100
abbrev Y102:E:=.and Y89 Y101
abbrev Y103:E:=.and Y87 Y102
abbrev Y104:E:=.and Y86 Y103
abbrev Y105:E:=.and Y84 Y104
abbrev Y106:E:=.and Y82 Y105
abbrev Y107:E:=.and Y13 Y106
abbrev Y108:E:=.and Y81 Y107
abbrev Y109:E:=.ar .add .i64 (.ar .add .i64 (.ar .add .i64 (.ar .add .i64 (.int 0) Y5) Y0) Y6) Y92
abbrev Y110:E:=.cmp .eql Y109 (.fn 6 (.pr (.fn 132 (.pr Y2 (.pr Y3 (.pr (.int 4) Y4)))) (.fn 133 (.pr Y2 (.pr Y3 (.pr Y4 (.int 0)))))))
abbrev Y111:E:=.cmp .lss (.fn 0 (.fn 1 (.pr Y2 (.int 20)))) Y5
abbrev Y112:E:=.not Y111
abbrev Y113:E:=.cmp .eql Y5 (.fn 121 (.pr (.fn 1 (.pr Y2 (.int 20))) Y4))
abbrev Y114:E:=.cmp .lss (.fn 0 (.fn 1 (.pr Y2 (.int 21)))) Y0
abbrev Y115:E:=.not Y114
abbrev Y116:E:=.cmp .eql Y0 (.fn 121 (.pr (.fn 1 (.pr Y2 (.int 21))) Y4))
abbrev Y117:E:=.cmp .lss (.fn 0 (.fn 1 (.pr Y2 (.int 22)))) Y6
abbrev Y118:E:=.not Y117
abbrev Y119:E:=.cmp .eql Y6 (.fn 121 (.pr (.fn 1 (.pr Y2 (.int 22))) Y4))
abbrev Y120:E:=.cmp .lss (.fn 0 (.fn 1 (.pr Y2 (.int 23)))) Y92
abbrev Y121:E:=.not Y120
abbrev Y122:E:=.cmp .eql Y92 (.fn 121 (.pr (.fn 1 (.pr Y2 (.int 23))) Y4))
abbrev Y123:E:=.cmp .lss Y3 (.int 0)
abbrev Y124:E:=.not Y123
abbrev Y125:E:=.and Y121 (.and Y95 (.and Y122 Y78))
abbrev Y126:E:=.and Y119 Y125
abbrev Y127:E:=.and Y90 Y126
abbrev Y128:E:=.and Y118 Y127
abbrev Y129:E:=.and Y116 Y128
abbrev Y130:E:=.and Y86 Y129
abbrev Y131:E:=.and Y115 Y130
abbrev Y132:E:=.and Y113 Y131
abbrev Y133:E:=.and Y13 Y132
abbrev Y134:E:=.and Y112 Y133
abbrev Y135:E:=.var 16
abbrev Y136:E:=.cmp .lss Y135 (.fn 9 (.pr (.fn 1 (.pr Y2 (.int 29))) (.int 5)))
abbrev Y137:E:=.cmp .lss Y135 (.int 0)
abbrev Y138:E:=.not Y137
abbrev Y139:E:=.and Y78 (.and Y136 Y138)
abbrev Y140:E:=.ar .add .i64 Y135 (.int 1)
abbrev Y141:E:=.var 17
abbrev Y142:E:=.cmp .eql Y141 (.fn 6 (.pr (.fn 132 (.pr Y2 (.pr Y3 (.pr (.int 4) Y4)))) (.fn 133 (.pr Y2 (.pr Y3 (.pr Y4 Y135))))))
abbrev Y143:E:=.cmp .lss (.fn 9 (.pr (.fn 1 (.pr Y2 (.int 29))) (.int 5))) Y135
abbrev Y144:E:=.not Y143
abbrev Y145:E:=.cmp .lss (.fn 6 (.pr (.int 160) Y135)) Y141
abbrev Y146:E:=.not Y145
abbrev Y147:E:=.cmp .eql (.fn 1 (.pr (.fn 1 (.pr Y2 (.int 29))) (.fn 6 (.pr (.fn 8 (.pr Y135 (.int 5))) (.int 3))))) (.int (-1))
abbrev Y148:E:=.cmp .eql (.fn 1 (.pr (.fn 1 (.pr Y2 (.int 29))) (.fn 6 (.pr (.fn 8 (.pr Y135 (.int 5))) (.int 1))))) Y4
abbrev Y149:E:=.cmp .eql (.fn 1 (.pr (.fn 1 (.pr Y2 (.int 29))) (.fn 6 (.pr (.fn 8 (.pr Y135 (.int 5))) (.int 0))))) Y3
abbrev Y150:E:=.cmp .lss Y141 (.int 0)
abbrev Y151:E:=.not Y150
abbrev Y152:E:=.and Y142 (.and Y138 Y78)
abbrev Y153:E:=.and Y151 Y152
abbrev Y154:E:=.and Y146 Y153
abbrev Y155:E:=.ar .add .i64 Y141 (.int 1)
abbrev Y156:E:=.cmp .eql Y141 (.fn 6 (.pr (.fn 132 (.pr Y2 (.pr Y3 (.pr (.int 4) Y4)))) (.fn 133 (.pr Y2 (.pr Y3 (.pr Y4 Y140))))))
abbrev Y157:E:=.and Y136 Y154
abbrev Y158:E:=.not (.cmp .lss Y2 (.int 1))
abbrev Y159:E:=.not (.cmp .lss Y3 (.int (-1)))
abbrev Y160:E:=.var 7
abbrev Y161:E:=.pr Y0 (.pr Y6 (.pr Y92 (.pr Y160 Y38)))
abbrev Y162:E:=.pr Y5 Y161
abbrev Y163:E:=.pr Y4 Y162
abbrev Y164:E:=.pr Y3 Y163
abbrev Y165:E:=.pr Y2 Y164
abbrev Y166:E:=.fn 137 Y165
abbrev Y167:E:=.iff (.bool false) Y166
abbrev Y168:E:=.not (.cmp .lss (.int 1) Y4)
abbrev Y169:E:=.cmp .eql Y5 (.int 0)
abbrev Y170:E:=.cmp .eql Y0 (.int 0)
abbrev Y171:E:=.cmp .lss (.int 500) Y2
abbrev Y172:E:=.not Y171
abbrev Y173:E:=.cmp .lss (.int 399) Y3
abbrev Y174:E:=.not Y173
abbrev Y175:E:=.and Y172 Y174
abbrev Y176:E:=.cmp .lss Y160 (.int 0)
abbrev Y177:E:=.not Y176
abbrev Y178:E:=.cmp .lss (.int 99) Y6
abbrev Y179:E:=.cmp .lss (.int 99) Y92
abbrev Y180:E:=.cmp .lss (.int 99) Y160
abbrev Y181:E:=.and (.not Y179) (.not Y180)
abbrev Y182:E:=.and (.not Y178) Y181
abbrev Y183:E:=.iff (.not (.cmp .lss (.int 99) Y38)) Y166
abbrev Y184:E:=.ar .add .i64 (.ar .add .i64 (.ar .add .i64 (.ar .add .i64 (.ar .add .i64 (.ar .add .i64 (.ar .add .i64 (.ar .add .i64 (.int 0) (.fn 0 (.fn 1 (.pr Y2 (.int 6))))) (.fn 0 (.fn 1 (.pr Y2 (.int 7))))) (.fn 0 (.fn 1 (.pr Y2 (.int 8))))) (.fn 0 (.fn 1 (.pr Y2 (.int 9))))) (.fn 0 (.fn 1 (.pr Y2 (.int 20))))) (.fn 0 (.fn 1 (.pr Y2 (.int 21))))) (.fn 0 (.fn 1 (.pr Y2 (.int 22))))) (.fn 0 (.fn 1 (.pr Y2 (.int 23))))
abbrev Y185:E:=.cmp .lss (.fn 1 (.pr (.fn 1 (.pr Y2 (.int 29))) (.fn 6 (.pr (.fn 8 (.pr Y135 (.int 5))) (.int 3))))) (.int 0)
abbrev Y186:E:=.var 18
abbrev Y187:E:=.cmp .eql Y186 (.fn 120 (.pr Y2 (.pr (.fn 1 (.pr (.fn 1 (.pr Y2 (.int 29))) (.fn 6 (.pr (.fn 8 (.pr Y135 (.int 5))) (.int 1))))) (.fn 9 (.pr (.fn 1 (.pr Y2 (.int 0))) (.int 12))))))
abbrev Y188:E:=.cmp .eql (.fn 1 (.pr (.fn 1 (.pr Y2 (.int 0))) (.fn 6 (.pr (.fn 8 (.pr Y186 (.int 12))) (.int 1))))) (.fn 1 (.pr (.fn 1 (.pr Y2 (.int 29))) (.fn 6 (.pr (.fn 8 (.pr Y135 (.int 5))) (.int 2)))))
abbrev Y189:E:=.fn 123 (.pr Y2 Y135)
abbrev Y190:E:=.and Y189 Y138
abbrev Y191:E:=.iff (.bool false) (.fn 125 Y2)
abbrev Y192:E:=.cmp .eql Y141 (.fn 6 (.pr (.fn 134 (.pr Y2 (.int 8))) (.fn 135 (.pr Y2 Y135))))
abbrev Y193:E:=.fn 123 (.pr Y2 (.fn 9 (.pr (.fn 1 (.pr Y2 (.int 29))) (.int 5))))
abbrev Y194:E:=.and Y192 Y138
abbrev Y195:E:=.cmp .lss (.fn 6 (.pr (.int 320) Y135)) Y141
abbrev Y196:E:=.not Y195
abbrev Y197:E:=.and Y151 Y194
abbrev Y198:E:=.and Y196 Y197
abbrev Y199:E:=.and Y78 Y198
abbrev Y200:E:=.and Y136 Y199
abbrev Y201:E:=.var 24
abbrev Y202:E:=.cmp .lss Y201 (.fn 9 (.pr (.fn 1 (.pr Y2 (.int 0))) (.int 12)))
abbrev Y203:E:=.cmp .lss (.int 0) Y201
abbrev Y204:E:=.and Y202 Y203
abbrev Y205:E:=.ar .sub .i64 Y201 (.int 1)
abbrev Y206:E:=.var 26
abbrev Y207:E:=.iff Y206 (.fn 137 (.pr (.fn 1 (.pr (.fn 1 (.pr Y2 (.int 0))) (.fn 6 (.pr (.fn 8 (.pr Y201 (.int 12))) (.int 0))))) (.pr (.fn 1 (.pr (.fn 1 (.pr Y2 (.int 0))) (.fn 6 (.pr (.fn 8 (.pr Y201 (.int 12))) (.int 1))))) (.pr (.fn 1 (.pr (.fn 1 (.pr Y2 (.int 0))) (.fn 6 (.pr (.fn 8 (.pr Y201 (.int 12))) (.int 2))))) (.pr (.fn 1 (.pr (.fn 1 (.pr Y2 (.int 0))) (.fn 6 (.pr (.fn 8 (.pr Y201 (.int 12))) (.int 3))))) (.pr (.fn 1 (.pr (.fn 1 (.pr Y2 (.int 0))) (.fn 6 (.pr (.fn 8 (.pr Y201 (.int 12))) (.int 4))))) (.pr (.fn 1 (.pr (.fn 1 (.pr Y2 (.int 0))) (.fn 6 (.pr (.fn 8 (.pr Y201 (.int 12))) (.int 5))))) (.pr (.fn 1 (.pr (.fn 1 (.pr Y2 (.int 0))) (.fn 6 (.pr (.fn 8 (.pr Y201 (.int 12))) (.int 6))))) (.pr (.fn 1 (.pr (.fn 1 (.pr Y2 (.int 0))) (.fn 6 (.pr (.fn 8 (.pr Y201 (.int 12))) (.int 7))))) (.fn 1 (.pr (.fn 1 (.pr Y2 (.int 0))) (.fn 6 (.pr (.fn 8 (.pr Y201 (.int 12))) (.int 8))))))))))))))
abbrev Y208:E:=.fn 124 (.pr Y2 Y201)
abbrev Y209:E:=.and Y78 Y190
abbrev Y210:E:=.not Y203
abbrev Y211:E:=.cmp .eql (.var 27) (.fn 122 (.pr Y2 (.pr (.fn 1 (.pr (.fn 1 (.pr Y2 (.int 0))) (.fn 6 (.pr (.fn 8 (.pr Y201 (.int 12))) (.int 2))))) (.fn 1 (.pr (.fn 1 (.pr Y2 (.int 0))) (.fn 6 (.pr (.fn 8 (.pr Y201 (.int 12))) (.int 0))))))))
abbrev Y212:E:=.cmp .eql (.var 27) (.int 1)
abbrev Y213:E:=.cmp .lss Y201 (.int 0)
abbrev Y214:E:=.not Y213
abbrev Y215:E:=.and Y208 Y214
abbrev Y216:E:=.and Y210 Y214
abbrev Y217:E:=.ar .add .i64 Y201 (.int 1)
abbrev Y218:E:=.cmp .lss (.fn 1 (.pr (.fn 1 (.pr Y2 (.int 0))) (.fn 6 (.pr (.fn 8 (.pr Y205 (.int 12))) (.int 0))))) (.fn 1 (.pr (.fn 1 (.pr Y2 (.int 0))) (.fn 6 (.pr (.fn 8 (.pr Y201 (.int 12))) (.int 0)))))
abbrev Y219:E:=.and Y208 (.and Y214 Y78)
abbrev Y220:E:=.and Y202 Y216
abbrev Y221:E:=.cmp .lss (.fn 9 (.pr (.fn 1 (.pr Y2 (.int 0))) (.int 12))) Y217
abbrev Y222:E:=.not Y221
abbrev Y223:E:=.cmp .lss (.fn 7 (.pr (.fn 9 (.pr (.fn 1 (.pr Y2 (.int 0))) (.int 12))) Y217)) (.fn 7 (.pr (.fn 9 (.pr (.fn 1 (.pr Y2 (.int 0))) (.int 12))) Y201))
abbrev Y224:E:=.cmp .lss (.fn 7 (.pr (.fn 9 (.pr (.fn 1 (.pr Y2 (.int 0))) (.int 12))) Y217)) (.int 0)
abbrev Y225:E:=.not Y224
def F229:E:=(.imp Y1 Y10)
theorem G229:Tr F229:=ii1 fun ρ p0=>by
 have:=(@z102 ρ Y5 Y3 Y2 Y6 Y4 Y0)
 try simp only [smA,smW] at *
 grind
def F230:E:=(.imp (.not Y11) Y14)
theorem G230:Tr F230:=ii1 fun ρ p0=>by
 have:=nn9 ρ (.pr Y0 (.int 2))
 try simp only [smA,smW] at *
 grind
def F231:E:=(.imp (.and Y13 (.and Y11 (.and Y15 (.and Y17 Y34)))) Y10)
theorem G231:Tr F231:=ii10 fun ρ p0 p1 p2 p3 p4 p5 p6 p7 p8 p9=>by
 have:=(@z102 ρ Y5 Y3 Y2 Y6 Y4 Y0)
 try simp only [smA,smW] at *
 grind
def F232:E:=(.imp (.and Y12 Y6) Y10)
theorem G232:Tr F232:=ii2 fun ρ p0 p1=>by
 have:=(@z102 ρ Y5 Y3 Y2 Y6 Y4 Y0)
 try simp only [smA,smW] at *
 grind
def F233:E:=(.imp (.and Y12 Y36) Y14)
theorem G233:Tr F233:=ii2 fun ρ p0 p1=>by
 try simp only [smA,smW] at *
 grind
def F234:E:=(.imp Y16 Y10)
theorem G234:Tr F234:=ii1 fun ρ p0=>by
 have:=(@z102 ρ Y5 Y3 Y2 Y6 Y4 Y0)
 try simp only [smA,smW] at *
 grind
def F235:E:=(.imp Y35 Y10)
theorem G235:Tr F235:=ii1 fun ρ p0=>by
 have:=(@z102 ρ Y5 Y3 Y2 Y6 Y4 Y0)
 try simp only [smA,smW] at *
 grind
def F236:E:=(.imp Y18 Y10)
theorem G236:Tr F236:=ii1 fun ρ p0=>by
 have:=(@z102 ρ Y5 Y3 Y2 Y6 Y4 Y0)
 try simp only [smA,smW] at *
 grind
def F237:E:=(.imp Y20 Y10)
theorem G237:Tr F237:=ii1 fun ρ p0=>by
 have:=(@z102 ρ Y5 Y3 Y2 Y6 Y4 Y0)
 try simp only [smA,smW] at *
 grind
def F238:E:=(.imp Y22 Y10)
theorem G238:Tr F238:=ii1 fun ρ p0=>by
 have:=(@z102 ρ Y5 Y3 Y2 Y6 Y4 Y0)
 try simp only [smA,smW] at *
 grind
def F239:E:=(.imp Y24 Y10)
theorem G239:Tr F239:=ii1 fun ρ p0=>by
 have:=(@z102 ρ Y5 Y3 Y2 Y6 Y4 Y0)
 try simp only [smA,smW] at *
 grind
def F240:E:=(.imp Y26 Y10)
theorem G240:Tr F240:=ii1 fun ρ p0=>by
 have:=(@z102 ρ Y5 Y3 Y2 Y6 Y4 Y0)
 try simp only [smA,smW] at *
 grind
def F241:E:=(.imp Y13 Y37)
theorem G241:Tr F241:=ii1 fun ρ p0=>by
 try simp only [smA,smW] at *
 grind
def F242:E:=(.imp (.not Y6) Y37)
theorem G242:Tr F242:=ii1 fun ρ p0=>by
 try simp only [smA,smW] at *
 grind
def F243:E:=(.fn 101 (.pr Y0 (.int 0)))
theorem G243:Tr F243:=fun ρ=>by
 unfold F243
 exact t101_zero (by (try simp only [sm_I_int]); omega)
def F244:E:=(.imp (.and Y39 (.and Y41 (.and (.not Y42) (.and (.not Y43) (.and Y44 (.and (.not Y45) (.and (.not Y46) (.and Y47 (.and Y37 Y50))))))))) Y10)
theorem G244:Tr F244:=ii18 fun ρ p0 p1 p2 p3 p4 p5 p6 p7 p8 p9 p10 p11 p12 p13 p14 p15 p16 p17=>by
 have:=(@z102 ρ Y5 Y3 Y2 Y6 Y4 Y0)
 have:=fun h0 h1=>@t101_fail ρ Y38 Y0 (.fn 9 (.pr Y0 (.int 2))) h0 h1 (.fn 1 (.pr Y0 (.fn 6 (.pr (.fn 8 (.pr Y38 (.int 2))) (.int 0))))) (.fn 1 (.pr Y0 (.fn 6 (.pr (.fn 8 (.pr Y38 (.int 2))) (.int 1))))) rfl rfl
 try simp only [smA,smW] at *
 grind
def F245:E:=(.imp Y14 Y14)
theorem G245:Tr F245:=ii1 fun ρ p0=>by
 try simp only [smA,smW] at *
 grind
def F246:E:=(.imp (.and Y39 (.and Y41 (.and (.not Y42) (.and Y43 Y47)))) Y10)
theorem G246:Tr F246:=ii5 fun ρ p0 p1 p2 p3 p4=>by
 have:=(@z102 ρ Y5 Y3 Y2 Y6 Y4 Y0)
 have:=fun h0 h1=>@t101_fail ρ Y38 Y0 (.fn 9 (.pr Y0 (.int 2))) h0 h1 (.fn 1 (.pr Y0 (.fn 6 (.pr (.fn 8 (.pr Y38 (.int 2))) (.int 0))))) (.fn 1 (.pr Y0 (.fn 6 (.pr (.fn 8 (.pr Y38 (.int 2))) (.int 1))))) rfl rfl
 try simp only [smA,smW] at *
 grind
def F247:E:=(.imp (.and Y39 (.and Y41 (.and Y42 Y47))) Y10)
theorem G247:Tr F247:=ii4 fun ρ p0 p1 p2 p3=>by
 have:=(@z102 ρ Y5 Y3 Y2 Y6 Y4 Y0)
 have:=fun h0 h1=>@t101_fail ρ Y38 Y0 (.fn 9 (.pr Y0 (.int 2))) h0 h1 (.fn 1 (.pr Y0 (.fn 6 (.pr (.fn 8 (.pr Y38 (.int 2))) (.int 0))))) (.fn 1 (.pr Y0 (.fn 6 (.pr (.fn 8 (.pr Y38 (.int 2))) (.int 1))))) rfl rfl
 try simp only [smA,smW] at *
 grind
def F248:E:=(.imp (.and Y39 (.and Y41 (.and Y46 Y47))) Y10)
theorem G248:Tr F248:=ii4 fun ρ p0 p1 p2 p3=>by
 have:=(@z102 ρ Y5 Y3 Y2 Y6 Y4 Y0)
 have:=fun h0 h1=>@t101_fail ρ Y38 Y0 (.fn 9 (.pr Y0 (.int 2))) h0 h1 (.fn 1 (.pr Y0 (.fn 6 (.pr (.fn 8 (.pr Y38 (.int 2))) (.int 0))))) (.fn 1 (.pr Y0 (.fn 6 (.pr (.fn 8 (.pr Y38 (.int 2))) (.int 1))))) rfl rfl
 try simp only [smA,smW] at *
 grind
def F249:E:=(.imp (.and Y39 (.and Y40 Y47)) Y10)
theorem G249:Tr F249:=ii3 fun ρ p0 p1 p2=>by
 have:=(@z102 ρ Y5 Y3 Y2 Y6 Y4 Y0)
 have:=fun h0 h1=>@t101_fail ρ Y38 Y0 (.fn 9 (.pr Y0 (.int 2))) h0 h1 (.fn 1 (.pr Y0 (.fn 6 (.pr (.fn 8 (.pr Y38 (.int 2))) (.int 0))))) (.fn 1 (.pr Y0 (.fn 6 (.pr (.fn 8 (.pr Y38 (.int 2))) (.int 1))))) rfl rfl
 try simp only [smA,smW] at *
 grind
def F250:E:=(.imp (.and (.not Y39) (.and Y51 (.and Y37 (.and Y14 Y50)))) (.iff (.bool true) Y9))
theorem G250:Tr F250:=ii13 fun ρ p0 p1 p2 p3 p4 p5 p6 p7 p8 p9 p10 p11 p12=>by
 have:=(@z102 ρ Y5 Y3 Y2 Y6 Y4 Y0)
 have:=fun h1=>@t101_end ρ Y38 Y0 (.fn 9 (.pr Y0 (.int 2))) p1 h1
 try simp only [smA,smW] at *
 grind
def F251:E:=(.imp Y37 Y37)
theorem G251:Tr F251:=ii1 fun ρ p0=>by
 try simp only [smA,smW] at *
 grind
def F252:E:=(.imp (.and Y39 Y52) Y55)
theorem G252:Tr F252:=ii3 fun ρ p0 p1 p2=>by
 try simp only [smA,smW] at *
 obtain ⟨a3,ea3,qa3⟩:=cs_i64 ((E.I ρ Y38) + (1))
 try simp only [ea3] at *
 grind
def F253:E:=(.imp (.and Y39 Y47) (.not (.cmp .lss (.fn 9 (.pr Y0 (.int 2))) Y53)))
theorem G253:Tr F253:=ii2 fun ρ p0 p1=>by
 try simp only [smA,smW] at *
 obtain ⟨a3,ea3,qa3⟩:=cs_i64 ((E.I ρ Y38) + (1))
 try simp only [ea3] at *
 grind
def F254:E:=(.imp (.and Y39 (.and Y41 (.and (.not Y42) (.and (.not Y43) (.and Y45 Y57))))) (.fn 101 (.pr Y0 Y53)))
theorem G254:Tr F254:=ii9 fun ρ p0 p1 p2 p3 p4 p5 p6 p7 p8=>by
 have:=@wrap_add ρ Y38 (.int 1)
 have:=fun h0 hm=>@t101_step ρ Y38 Y53 Y0 p6 h0 hm (.fn 1 (.pr Y0 (.fn 6 (.pr (.fn 8 (.pr Y38 (.int 2))) (.int 0))))) (.fn 1 (.pr Y0 (.fn 6 (.pr (.fn 8 (.pr Y38 (.int 2))) (.int 1))))) rfl rfl
 try simp only [smA,smW] at *
 grind
def F255:E:=(.imp (.and Y39 (.and Y41 (.and (.not Y42) (.and (.not Y43) (.and (.not Y44) Y57))))) (.fn 101 (.pr Y0 Y53)))
theorem G255:Tr F255:=ii9 fun ρ p0 p1 p2 p3 p4 p5 p6 p7 p8=>by
 have:=@wrap_add ρ Y38 (.int 1)
 have:=fun h0 hm=>@t101_step ρ Y38 Y53 Y0 p6 h0 hm (.fn 1 (.pr Y0 (.fn 6 (.pr (.fn 8 (.pr Y38 (.int 2))) (.int 0))))) (.fn 1 (.pr Y0 (.fn 6 (.pr (.fn 8 (.pr Y38 (.int 2))) (.int 1))))) rfl rfl
 try simp only [smA,smW] at *
 grind
def F256:E:=(.imp (.and Y39 Y52) (.cmp .lss (.fn 7 (.pr (.fn 9 (.pr Y0 (.int 2))) Y53)) (.fn 7 (.pr (.fn 9 (.pr Y0 (.int 2))) Y38))))
theorem G256:Tr F256:=ii3 fun ρ p0 p1 p2=>by
 try simp only [smA,smW] at *
 obtain ⟨a3,ea3,qa3⟩:=cs_i64 ((E.I ρ Y38) + (1))
 try simp only [ea3] at *
 grind
def F257:E:=(.imp (.and Y39 Y47) (.not (.cmp .lss (.fn 7 (.pr (.fn 9 (.pr Y0 (.int 2))) Y53)) (.int 0))))
theorem G257:Tr F257:=ii2 fun ρ p0 p1=>by
 try simp only [smA,smW] at *
 obtain ⟨a3,ea3,qa3⟩:=cs_i64 ((E.I ρ Y38) + (1))
 try simp only [ea3] at *
 grind
namespace p21
def facts:List E:=[F229,F230,F231,F232,F233,F234,F235,F236,F237,F238,F239,F240,F13,F241,F242,F243,F244,F245,F246,F247,F248,F249,F250,F251,F252,F253,F254,F255,F256,F257]
theorem facts_ok:∀ e∈facts,Tr e:=(ac G229 (ac G230 (ac G231 (ac G232 (ac G233 (ac G234 (ac G235 (ac G236 (ac G237 (ac G238 (ac G239 (ac G240 (ac G13 (ac G241 (ac G242 (ac G243 (ac G244 (ac G245 (ac G246 (ac G247 (ac G248 (ac G249 (ac G250 (ac G251 (ac G252 (ac G253 (ac G254 (ac G255 (ac G256 (ac G257 all_nil))))))))))))))))))))))))))))))
end p21
theorem spec21_0:NatOk Try.prog (specNat (spIt)) :=
 spec_of_check good (facts:=p21.facts) p21.facts_ok (anns:=annIt) (plainAnns_ok _ (by kernel_rfl)) (nats:=natl22) natl22_ok (n:=3000) (by kernel_rfl)
def natl23:List Nat1:=specNat (spIt)::natl22
theorem natl23_ok:∀ x∈natl23,NatOk Try.prog x:=by
 intro x hx
 rcases List.mem_cons.1 hx with rfl | hx
 ·exact spec21_0
 exact natl22_ok x hx

def F258:E:=(.imp Y62 Y55)
theorem G258:Tr F258:=ii3 fun ρ p0 p1 p2=>by
 try simp only [smA,smW] at *
 have:=@fn0_nn ρ Y2
 obtain ⟨a4,ea4,qa4⟩:=cs_i64 ((E.I ρ Y38) + (1))
 try simp only [ea4] at *
 omega
def F259:E:=(.imp (.and (.not Y58) Y64) (.cmp .eql Y63 (.fn 121 (.pr Y2 Y3))))
theorem G259:Tr F259:=ii2 fun ρ p0 p1=>by
 have:=@t121_end ρ Y2 Y3 Y38
 try simp only [smA,smW] at *
 grind
def F260:E:=(.imp (.and Y58 Y47) (.not (.cmp .lss (.fn 0 Y2) Y53)))
theorem G260:Tr F260:=ii2 fun ρ p0 p1=>by
 try simp only [smA,smW] at *
 obtain ⟨a4,ea4,qa4⟩:=cs_i64 ((E.I ρ Y38) + (1))
 try simp only [ea4] at *
 omega
def F261:E:=(.imp (.and (.not Y58) (.and Y66 (.and Y64 (.not (.cmp .lss (.fn 0 Y2) Y38))))) (.not (.cmp .lss (.fn 0 Y2) Y63)))
theorem G261:Tr F261:=ii4 fun ρ p0 p1 p2 p3=>by
 try simp only [smA,smW] at *
 omega
def F262:E:=(.imp (.and Y58 (.and Y67 Y72)) (.cmp .eql Y73 (.fn 131 (.pr Y2 (.pr Y3 Y53)))))
theorem G262:Tr F262:=ii7 fun ρ p0 p1 p2 p3 p4 p5 p6=>by
 have:=@wrap_add ρ Y38 (.int 1)
 have:=@t131_step ρ Y2 Y3 Y38 Y53
 try simp only [smA,smW] at *
 obtain ⟨a7,ea7,qa7⟩:=cs_i64 ((E.I ρ Y63) + (1))
 try simp only [ea7] at *
 grind
def F263:E:=(.imp (.and Y58 (.and (.not Y67) Y72)) (.cmp .eql Y63 (.fn 131 (.pr Y2 (.pr Y3 Y53)))))
theorem G263:Tr F263:=ii7 fun ρ p0 p1 p2 p3 p4 p5 p6=>by
 have:=@wrap_add ρ Y38 (.int 1)
 have:=@t131_step ρ Y2 Y3 Y38 Y53
 try simp only [smA,smW] at *
 grind
def F264:E:=(.imp Y74 (.not (.cmp .lss Y73 (.int 0))))
theorem G264:Tr F264:=ii6 fun ρ p0 p1 p2 p3 p4 p5=>by
 try simp only [smA,smW] at *
 have:=@fn0_nn ρ Y2
 obtain ⟨a4,ea4,qa4⟩:=cs_i64 ((E.I ρ Y63) + (1))
 try simp only [ea4] at *
 omega
def F265:E:=(.imp (.and Y58 (.and Y66 Y70)) (.not (.cmp .lss Y53 Y63)))
theorem G265:Tr F265:=ii5 fun ρ p0 p1 p2 p3 p4=>by
 try simp only [smA,smW] at *
 have:=@fn0_nn ρ Y2
 obtain ⟨a4,ea4,qa4⟩:=cs_i64 ((E.I ρ Y38) + (1))
 try simp only [ea4] at *
 omega
def F266:E:=(.imp Y74 (.not (.cmp .lss Y53 Y73)))
theorem G266:Tr F266:=ii6 fun ρ p0 p1 p2 p3 p4 p5=>by
 try simp only [smA,smW] at *
 have:=@fn0_nn ρ Y2
 obtain ⟨a4,ea4,qa4⟩:=cs_i64 ((E.I ρ Y38) + (1))
 try simp only [ea4] at *
 obtain ⟨a5,ea5,qa5⟩:=cs_i64 ((E.I ρ Y63) + (1))
 try simp only [ea5] at *
 omega
def F267:E:=(.imp Y62 (.cmp .lss (.fn 7 (.pr (.fn 0 Y2) Y53)) (.fn 7 (.pr (.fn 0 Y2) Y38))))
theorem G267:Tr F267:=ii3 fun ρ p0 p1 p2=>by
 try simp only [smA,smW] at *
 have:=@fn0_nn ρ Y2
 obtain ⟨a4,ea4,qa4⟩:=cs_i64 ((E.I ρ Y38) + (1))
 try simp only [ea4] at *
 omega
def F268:E:=(.imp (.and Y58 Y47) (.not (.cmp .lss (.fn 7 (.pr (.fn 0 Y2) Y53)) (.int 0))))
theorem G268:Tr F268:=ii2 fun ρ p0 p1=>by
 try simp only [smA,smW] at *
 obtain ⟨a4,ea4,qa4⟩:=cs_i64 ((E.I ρ Y38) + (1))
 try simp only [ea4] at *
 omega
namespace p22
def facts:List E:=[F39,F258,F259,F260,F261,F262,F263,F264,F265,F266,F267,F268]
theorem facts_ok:∀ e∈facts,Tr e:=(ac G39 (ac G258 (ac G259 (ac G260 (ac G261 (ac G262 (ac G263 (ac G264 (ac G265 (ac G266 (ac G267 (ac G268 all_nil))))))))))))
end p22
theorem spec22_0:NatOk Try.prog (specNat (spCt)) :=
 spec_of_check good (facts:=p22.facts) p22.facts_ok (anns:=annCt) (plainAnns_ok _ (by kernel_rfl)) (nats:=natl23) natl23_ok (n:=3000) (by kernel_rfl)
def natl24:List Nat1:=specNat (spCt)::natl23
theorem natl24_ok:∀ x∈natl24,NatOk Try.prog x:=by
 intro x hx
 rcases List.mem_cons.1 hx with rfl | hx
 ·exact spec22_0
 exact natl23_ok x hx

def F269:E:=(.cmp .eql (.fn 120 (.pr Y2 (.pr Y3 (.int 0)))) (.int (-1)))
theorem G269:Tr F269:=fun ρ=>by
 unfold F269
 have:=@t120_zero ρ Y3 (.int 0) Y2
 try simp only [smA,smW] at *
 grind
def F270:E:=(.imp (.and Y75 (.and Y76 (.and Y77 Y47))) (.cmp .eql Y38 (.fn 120 (.pr Y2 (.pr Y3 (.fn 9 (.pr (.fn 1 (.pr Y2 (.int 0))) (.int 12))))))))
theorem G270:Tr F270:=ii4 fun ρ p0 p1 p2 p3=>by
 have:=fun h=>@t120_step ρ Y3 Y38 (.fn 6 (.pr Y38 (.int 1))) Y2 (.fn 9 (.pr (.fn 1 (.pr Y2 (.int 0))) (.int 12))) h (.fn 1 (.pr (.fn 1 (.pr Y2 (.int 0))) (.fn 6 (.pr (.fn 8 (.pr Y38 (.int 12))) (.int 0))))) rfl
 try simp only [smA,smW] at *
 grind
def F271:E:=(.imp (.and Y78 Y79) Y55)
theorem G271:Tr F271:=ii3 fun ρ p0 p1 p2=>by
 have:=t117 p0
 try simp only [smA,smW] at *
 obtain ⟨a3,ea3,qa3⟩:=cs_i64 ((E.I ρ Y38) + (1))
 try simp only [ea3] at *
 omega
def F272:E:=(.imp (.and (.not Y75) (.and Y77 (.not (.cmp .lss (.fn 9 (.pr (.fn 1 (.pr Y2 (.int 0))) (.int 12))) Y38)))) (.cmp .eql (.fn 120 (.pr Y2 (.pr Y3 (.fn 9 (.pr (.fn 1 (.pr Y2 (.int 0))) (.int 12)))))) (.int (-1))))
theorem G272:Tr F272:=ii3 fun ρ p0 p1 p2=>by
 have:=@t120_eq ρ Y3 Y38 (.fn 9 (.pr (.fn 1 (.pr Y2 (.int 0))) (.int 12))) Y2
 try simp only [smA,smW] at *
 grind
def F273:E:=(.imp Y79 (.not (.cmp .lss (.fn 9 (.pr (.fn 1 (.pr Y2 (.int 0))) (.int 12))) Y53)))
theorem G273:Tr F273:=ii2 fun ρ p0 p1=>by
 try simp only [smA,smW] at *
 obtain ⟨a3,ea3,qa3⟩:=cs_i64 ((E.I ρ Y38) + (1))
 try simp only [ea3] at *
 omega
def F274:E:=(.imp (.and Y75 (.and (.not Y76) (.and Y77 (.and Y47 Y78)))) (.cmp .eql (.fn 120 (.pr Y2 (.pr Y3 Y53))) (.int (-1))))
theorem G274:Tr F274:=ii5 fun ρ p0 p1 p2 p3 p4=>by
 have:=t117 p4
 have:=@wrap_add ρ Y38 (.int 1)
 have:=fun h=>@t120_step ρ Y3 Y38 Y53 Y2 (.fn 9 (.pr (.fn 1 (.pr Y2 (.int 0))) (.int 12))) h (.fn 1 (.pr (.fn 1 (.pr Y2 (.int 0))) (.fn 6 (.pr (.fn 8 (.pr Y38 (.int 12))) (.int 0))))) rfl
 try simp only [smA,smW] at *
 grind
def F275:E:=(.imp (.and Y78 Y79) (.cmp .lss (.fn 7 (.pr (.fn 9 (.pr (.fn 1 (.pr Y2 (.int 0))) (.int 12))) Y53)) (.fn 7 (.pr (.fn 9 (.pr (.fn 1 (.pr Y2 (.int 0))) (.int 12))) Y38))))
theorem G275:Tr F275:=ii3 fun ρ p0 p1 p2=>by
 have:=t117 p0
 try simp only [smA,smW] at *
 obtain ⟨a3,ea3,qa3⟩:=cs_i64 ((E.I ρ Y38) + (1))
 try simp only [ea3] at *
 omega
def F276:E:=(.imp Y79 (.not (.cmp .lss (.fn 7 (.pr (.fn 9 (.pr (.fn 1 (.pr Y2 (.int 0))) (.int 12))) Y53)) (.int 0))))
theorem G276:Tr F276:=ii2 fun ρ p0 p1=>by
 try simp only [smA,smW] at *
 obtain ⟨a3,ea3,qa3⟩:=cs_i64 ((E.I ρ Y38) + (1))
 try simp only [ea3] at *
 omega
namespace p23
def facts:List E:=[F105,F269,F270,F271,F272,F273,F274,F275,F276]
theorem facts_ok:∀ e∈facts,Tr e:=(ac G105 (ac G269 (ac G270 (ac G271 (ac G272 (ac G273 (ac G274 (ac G275 (ac G276 all_nil)))))))))
end p23
theorem spec23_0:NatOk Try.prog (specNat (spId)) :=
 spec_of_check good (facts:=p23.facts) p23.facts_ok (anns:=annId) (plainAnns_ok _ (by kernel_rfl)) (nats:=natl24) natl24_ok (n:=3000) (by kernel_rfl)
def natl25:List Nat1:=specNat (spId)::natl24
theorem natl25_ok:∀ x∈natl25,NatOk Try.prog x:=by
 intro x hx
 rcases List.mem_cons.1 hx with rfl | hx
 ·exact spec23_0
 exact natl24_ok x hx

def F277:E:=(.imp Y78 (.not (.cmp .lss (.int 1000) (.fn 0 (.fn 1 (.pr Y2 (.int 6)))))))
theorem G277:Tr F277:=ii1 fun ρ p0=>by
 have:=t117 p0
 try simp only [smA,smW] at *
 have:=@fn0_nn ρ (.fn 1 (.pr Y2 (.int 6)))
 omega
def F278:E:=(.imp Y78 (.not (.cmp .lss (.int 1000) (.fn 0 (.fn 1 (.pr Y2 (.int 20)))))))
theorem G278:Tr F278:=ii1 fun ρ p0=>by
 have:=t117 p0
 try simp only [smA,smW] at *
 have:=@fn0_nn ρ (.fn 1 (.pr Y2 (.int 20)))
 omega
def F279:E:=(.imp Y78 (.not (.cmp .lss (.int 1000) (.fn 0 (.fn 1 (.pr Y2 (.int 7)))))))
theorem G279:Tr F279:=ii1 fun ρ p0=>by
 have:=t117 p0
 try simp only [smA,smW] at *
 have:=@fn0_nn ρ (.fn 1 (.pr Y2 (.int 7)))
 omega
def F280:E:=(.imp Y78 (.not (.cmp .lss (.int 1000) (.fn 0 (.fn 1 (.pr Y2 (.int 21)))))))
theorem G280:Tr F280:=ii1 fun ρ p0=>by
 have:=t117 p0
 try simp only [smA,smW] at *
 have:=@fn0_nn ρ (.fn 1 (.pr Y2 (.int 21)))
 omega
def F281:E:=(.imp Y78 (.not (.cmp .lss (.int 1000) (.fn 0 (.fn 1 (.pr Y2 (.int 8)))))))
theorem G281:Tr F281:=ii1 fun ρ p0=>by
 have:=t117 p0
 try simp only [smA,smW] at *
 have:=@fn0_nn ρ (.fn 1 (.pr Y2 (.int 8)))
 omega
def F282:E:=(.imp Y78 (.not (.cmp .lss (.int 1000) (.fn 0 (.fn 1 (.pr Y2 (.int 22)))))))
theorem G282:Tr F282:=ii1 fun ρ p0=>by
 have:=t117 p0
 try simp only [smA,smW] at *
 have:=@fn0_nn ρ (.fn 1 (.pr Y2 (.int 22)))
 omega
def F283:E:=(.imp Y78 (.not (.cmp .lss (.int 1000) (.fn 0 (.fn 1 (.pr Y2 (.int 9)))))))
theorem G283:Tr F283:=ii1 fun ρ p0=>by
 have:=t117 p0
 try simp only [smA,smW] at *
 have:=@fn0_nn ρ (.fn 1 (.pr Y2 (.int 9)))
 omega
def F284:E:=(.imp Y78 (.not (.cmp .lss (.int 1000) (.fn 0 (.fn 1 (.pr Y2 (.int 23)))))))
theorem G284:Tr F284:=ii1 fun ρ p0=>by
 have:=t117 p0
 try simp only [smA,smW] at *
 have:=@fn0_nn ρ (.fn 1 (.pr Y2 (.int 23)))
 omega
def F285:E:=(.imp (.and (.cmp .eql Y3 (.int 0)) Y108) Y110)
theorem G285:Tr F285:=ii14 fun ρ p0 p1 p2 p3 p4 p5 p6 p7 p8 p9 p10 p11 p12 p13=>by
 have:=t117 p13
 have:=@t132_0 ρ Y4 Y3 Y2
 have:=@t133_zero ρ Y4 Y3 Y2 (.int 0)
 try simp only [smA,smW] at *
 obtain ⟨a15,ea15,qa15⟩:=cs_i64 ((0) + (E.I ρ Y5))
 try simp only [ea15] at *
 obtain ⟨a16,ea16,qa16⟩:=cs_i64 (a15 + (E.I ρ Y0))
 try simp only [ea16] at *
 obtain ⟨a17,ea17,qa17⟩:=cs_i64 (a16 + (E.I ρ Y6))
 try simp only [ea17] at *
 obtain ⟨a18,ea18,qa18⟩:=cs_i64 (a17 + (E.I ρ Y92))
 try simp only [ea18] at *
 grind
def F286:E:=(.imp (.and (.not (.cmp .eql Y3 (.int 0))) (.and Y112 (.and Y13 (.and Y113 (.and Y115 (.and Y86 (.and Y116 (.and Y118 (.and Y90 (.and Y119 (.and Y121 (.and Y95 (.and Y122 (.and (.not (.cmp .lss (.int 1) Y3)) (.and Y124 Y78))))))))))))))) Y110)
theorem G286:Tr F286:=ii16 fun ρ p0 p1 p2 p3 p4 p5 p6 p7 p8 p9 p10 p11 p12 p13 p14 p15=>by
 have:=t117 p15
 have:=@t132_1 ρ Y4 Y3 Y2
 have:=@t133_zero ρ Y4 Y3 Y2 (.int 0)
 try simp only [smA,smW] at *
 obtain ⟨a15,ea15,qa15⟩:=cs_i64 ((0) + (E.I ρ Y5))
 try simp only [ea15] at *
 obtain ⟨a16,ea16,qa16⟩:=cs_i64 (a15 + (E.I ρ Y0))
 try simp only [ea16] at *
 obtain ⟨a17,ea17,qa17⟩:=cs_i64 (a16 + (E.I ρ Y6))
 try simp only [ea17] at *
 obtain ⟨a18,ea18,qa18⟩:=cs_i64 (a17 + (E.I ρ Y92))
 try simp only [ea18] at *
 grind
def F287:E:=(.imp Y108 (.not (.cmp .lss Y109 (.int 0))))
theorem G287:Tr F287:=ii13 fun ρ p0 p1 p2 p3 p4 p5 p6 p7 p8 p9 p10 p11 p12=>by
 have:=t117 p12
 try simp only [smA,smW] at *
 have:=@fn0_nn ρ (.fn 1 (.pr Y2 (.int 6)))
 have:=@fn0_nn ρ (.fn 1 (.pr Y2 (.int 7)))
 have:=@fn0_nn ρ (.fn 1 (.pr Y2 (.int 8)))
 have:=@fn0_nn ρ (.fn 1 (.pr Y2 (.int 9)))
 obtain ⟨a12,ea12,qa12⟩:=cs_i64 ((0) + (E.I ρ Y5))
 try simp only [ea12] at *
 obtain ⟨a13,ea13,qa13⟩:=cs_i64 (a12 + (E.I ρ Y0))
 try simp only [ea13] at *
 obtain ⟨a14,ea14,qa14⟩:=cs_i64 (a13 + (E.I ρ Y6))
 try simp only [ea14] at *
 obtain ⟨a15,ea15,qa15⟩:=cs_i64 (a14 + (E.I ρ Y92))
 try simp only [ea15] at *
 omega
def F288:E:=(.imp Y134 (.not (.cmp .lss Y109 (.int 0))))
theorem G288:Tr F288:=ii13 fun ρ p0 p1 p2 p3 p4 p5 p6 p7 p8 p9 p10 p11 p12=>by
 have:=t117 p12
 try simp only [smA,smW] at *
 have:=@fn0_nn ρ (.fn 1 (.pr Y2 (.int 20)))
 have:=@fn0_nn ρ (.fn 1 (.pr Y2 (.int 21)))
 have:=@fn0_nn ρ (.fn 1 (.pr Y2 (.int 22)))
 have:=@fn0_nn ρ (.fn 1 (.pr Y2 (.int 23)))
 obtain ⟨a12,ea12,qa12⟩:=cs_i64 ((0) + (E.I ρ Y5))
 try simp only [ea12] at *
 obtain ⟨a13,ea13,qa13⟩:=cs_i64 (a12 + (E.I ρ Y0))
 try simp only [ea13] at *
 obtain ⟨a14,ea14,qa14⟩:=cs_i64 (a13 + (E.I ρ Y6))
 try simp only [ea14] at *
 obtain ⟨a15,ea15,qa15⟩:=cs_i64 (a14 + (E.I ρ Y92))
 try simp only [ea15] at *
 omega
def F289:E:=(.imp Y108 (.not (.cmp .lss (.int 160) Y109)))
theorem G289:Tr F289:=ii13 fun ρ p0 p1 p2 p3 p4 p5 p6 p7 p8 p9 p10 p11 p12=>by
 have:=t117 p12
 try simp only [smA,smW] at *
 have:=@fn0_nn ρ (.fn 1 (.pr Y2 (.int 6)))
 have:=@fn0_nn ρ (.fn 1 (.pr Y2 (.int 7)))
 have:=@fn0_nn ρ (.fn 1 (.pr Y2 (.int 8)))
 have:=@fn0_nn ρ (.fn 1 (.pr Y2 (.int 9)))
 obtain ⟨a12,ea12,qa12⟩:=cs_i64 ((0) + (E.I ρ Y5))
 try simp only [ea12] at *
 obtain ⟨a13,ea13,qa13⟩:=cs_i64 (a12 + (E.I ρ Y0))
 try simp only [ea13] at *
 obtain ⟨a14,ea14,qa14⟩:=cs_i64 (a13 + (E.I ρ Y6))
 try simp only [ea14] at *
 obtain ⟨a15,ea15,qa15⟩:=cs_i64 (a14 + (E.I ρ Y92))
 try simp only [ea15] at *
 omega
def F290:E:=(.imp Y134 (.not (.cmp .lss (.int 160) Y109)))
theorem G290:Tr F290:=ii13 fun ρ p0 p1 p2 p3 p4 p5 p6 p7 p8 p9 p10 p11 p12=>by
 have:=t117 p12
 try simp only [smA,smW] at *
 have:=@fn0_nn ρ (.fn 1 (.pr Y2 (.int 20)))
 have:=@fn0_nn ρ (.fn 1 (.pr Y2 (.int 21)))
 have:=@fn0_nn ρ (.fn 1 (.pr Y2 (.int 22)))
 have:=@fn0_nn ρ (.fn 1 (.pr Y2 (.int 23)))
 obtain ⟨a12,ea12,qa12⟩:=cs_i64 ((0) + (E.I ρ Y5))
 try simp only [ea12] at *
 obtain ⟨a13,ea13,qa13⟩:=cs_i64 (a12 + (E.I ρ Y0))
 try simp only [ea13] at *
 obtain ⟨a14,ea14,qa14⟩:=cs_i64 (a13 + (E.I ρ Y6))
 try simp only [ea14] at *
 obtain ⟨a15,ea15,qa15⟩:=cs_i64 (a14 + (E.I ρ Y92))
 try simp only [ea15] at *
 omega
def F291:E:=(.imp Y139 (.not (.cmp .lss Y140 (.int 0))))
theorem G291:Tr F291:=ii3 fun ρ p0 p1 p2=>by
 have:=t117 p0
 try simp only [smA,smW] at *
 obtain ⟨a5,ea5,qa5⟩:=cs_i64 ((E.I ρ Y135) + (1))
 try simp only [ea5] at *
 omega
def F292:E:=(.imp (.and (.not Y136) (.and Y142 (.and Y144 Y124))) (.cmp .eql Y141 (.fn 122 (.pr Y2 (.pr Y3 Y4)))))
theorem G292:Tr F292:=ii4 fun ρ p0 p1 p2 p3=>by
 have:=@t122 ρ Y4 Y3 Y2 Y135
 try simp only [smA,smW] at *
 grind
def F293:E:=(.imp Y139 (.not (.cmp .lss (.fn 9 (.pr (.fn 1 (.pr Y2 (.int 29))) (.int 5))) Y140)))
theorem G293:Tr F293:=ii3 fun ρ p0 p1 p2=>by
 have:=t117 p0
 try simp only [smA,smW] at *
 obtain ⟨a5,ea5,qa5⟩:=cs_i64 ((E.I ρ Y135) + (1))
 try simp only [ea5] at *
 omega
def F294:E:=(.imp (.and (.not Y136) (.and Y146 (.and Y142 (.and Y144 Y78)))) (.not (.cmp .lss (.int 1000) Y141)))
theorem G294:Tr F294:=ii5 fun ρ p0 p1 p2 p3 p4=>by
 have:=t117 p4
 try simp only [smA,smW] at *
 omega
def F295:E:=(.imp (.and Y136 (.and Y147 (.and Y148 (.and Y149 Y154)))) (.cmp .eql Y155 (.fn 6 (.pr (.fn 132 (.pr Y2 (.pr Y3 (.pr (.int 4) Y4)))) (.fn 133 (.pr Y2 (.pr Y3 (.pr Y4 Y140))))))))
theorem G295:Tr F295:=ii9 fun ρ p0 p1 p2 p3 p4 p5 p6 p7 p8=>by
 have:=t117 p8
 have:=@wrap_add ρ Y135 (.int 1)
 have:=@t133_step ρ Y4 Y3 Y140 Y2 Y135 (.fn 1 (.pr (.fn 1 (.pr Y2 (.int 29))) (.fn 6 (.pr (.fn 8 (.pr Y135 (.int 5))) (.int 0))))) (.fn 1 (.pr (.fn 1 (.pr Y2 (.int 29))) (.fn 6 (.pr (.fn 8 (.pr Y135 (.int 5))) (.int 1))))) (.fn 1 (.pr (.fn 1 (.pr Y2 (.int 29))) (.fn 6 (.pr (.fn 8 (.pr Y135 (.int 5))) (.int 3))))) rfl rfl rfl
 try simp only [smA,smW] at *
 obtain ⟨a11,ea11,qa11⟩:=cs_i64 ((E.I ρ Y141) + (1))
 try simp only [ea11] at *
 grind
def F296:E:=(.imp (.and Y136 (.and (.not Y149) Y152)) Y156)
theorem G296:Tr F296:=ii5 fun ρ p0 p1 p2 p3 p4=>by
 have:=t117 p4
 have:=@wrap_add ρ Y135 (.int 1)
 have:=@t133_step ρ Y4 Y3 Y140 Y2 Y135 (.fn 1 (.pr (.fn 1 (.pr Y2 (.int 29))) (.fn 6 (.pr (.fn 8 (.pr Y135 (.int 5))) (.int 0))))) (.fn 1 (.pr (.fn 1 (.pr Y2 (.int 29))) (.fn 6 (.pr (.fn 8 (.pr Y135 (.int 5))) (.int 1))))) (.fn 1 (.pr (.fn 1 (.pr Y2 (.int 29))) (.fn 6 (.pr (.fn 8 (.pr Y135 (.int 5))) (.int 3))))) rfl rfl rfl
 try simp only [smA,smW] at *
 grind
def F297:E:=(.imp (.and Y136 (.and (.not Y148) Y152)) Y156)
theorem G297:Tr F297:=ii5 fun ρ p0 p1 p2 p3 p4=>by
 have:=t117 p4
 have:=@wrap_add ρ Y135 (.int 1)
 have:=@t133_step ρ Y4 Y3 Y140 Y2 Y135 (.fn 1 (.pr (.fn 1 (.pr Y2 (.int 29))) (.fn 6 (.pr (.fn 8 (.pr Y135 (.int 5))) (.int 0))))) (.fn 1 (.pr (.fn 1 (.pr Y2 (.int 29))) (.fn 6 (.pr (.fn 8 (.pr Y135 (.int 5))) (.int 1))))) (.fn 1 (.pr (.fn 1 (.pr Y2 (.int 29))) (.fn 6 (.pr (.fn 8 (.pr Y135 (.int 5))) (.int 3))))) rfl rfl rfl
 try simp only [smA,smW] at *
 grind
def F298:E:=(.imp (.and Y136 (.and (.not Y147) Y152)) Y156)
theorem G298:Tr F298:=ii5 fun ρ p0 p1 p2 p3 p4=>by
 have:=t117 p4
 have:=@wrap_add ρ Y135 (.int 1)
 have:=@t133_step ρ Y4 Y3 Y140 Y2 Y135 (.fn 1 (.pr (.fn 1 (.pr Y2 (.int 29))) (.fn 6 (.pr (.fn 8 (.pr Y135 (.int 5))) (.int 0))))) (.fn 1 (.pr (.fn 1 (.pr Y2 (.int 29))) (.fn 6 (.pr (.fn 8 (.pr Y135 (.int 5))) (.int 1))))) (.fn 1 (.pr (.fn 1 (.pr Y2 (.int 29))) (.fn 6 (.pr (.fn 8 (.pr Y135 (.int 5))) (.int 3))))) rfl rfl rfl
 try simp only [smA,smW] at *
 grind
def F299:E:=(.imp Y157 (.not (.cmp .lss Y155 (.int 0))))
theorem G299:Tr F299:=ii6 fun ρ p0 p1 p2 p3 p4 p5=>by
 have:=t117 p5
 try simp only [smA,smW] at *
 obtain ⟨a5,ea5,qa5⟩:=cs_i64 ((E.I ρ Y141) + (1))
 try simp only [ea5] at *
 omega
def F300:E:=(.imp (.and Y136 (.and Y146 Y152)) (.not (.cmp .lss (.fn 6 (.pr (.int 160) Y140)) Y141)))
theorem G300:Tr F300:=ii5 fun ρ p0 p1 p2 p3 p4=>by
 have:=t117 p4
 try simp only [smA,smW] at *
 obtain ⟨a5,ea5,qa5⟩:=cs_i64 ((E.I ρ Y135) + (1))
 try simp only [ea5] at *
 omega
def F301:E:=(.imp Y157 (.not (.cmp .lss (.fn 6 (.pr (.int 160) Y140)) Y155)))
theorem G301:Tr F301:=ii6 fun ρ p0 p1 p2 p3 p4 p5=>by
 have:=t117 p5
 try simp only [smA,smW] at *
 obtain ⟨a5,ea5,qa5⟩:=cs_i64 ((E.I ρ Y135) + (1))
 try simp only [ea5] at *
 obtain ⟨a6,ea6,qa6⟩:=cs_i64 ((E.I ρ Y141) + (1))
 try simp only [ea6] at *
 omega
def F302:E:=(.imp Y139 (.cmp .lss (.fn 7 (.pr (.fn 9 (.pr (.fn 1 (.pr Y2 (.int 29))) (.int 5))) Y140)) (.fn 7 (.pr (.fn 9 (.pr (.fn 1 (.pr Y2 (.int 29))) (.int 5))) Y135))))
theorem G302:Tr F302:=ii3 fun ρ p0 p1 p2=>by
 have:=t117 p0
 try simp only [smA,smW] at *
 obtain ⟨a5,ea5,qa5⟩:=cs_i64 ((E.I ρ Y135) + (1))
 try simp only [ea5] at *
 omega
def F303:E:=(.imp Y139 (.not (.cmp .lss (.fn 7 (.pr (.fn 9 (.pr (.fn 1 (.pr Y2 (.int 29))) (.int 5))) Y140)) (.int 0))))
theorem G303:Tr F303:=ii3 fun ρ p0 p1 p2=>by
 have:=t117 p0
 try simp only [smA,smW] at *
 obtain ⟨a5,ea5,qa5⟩:=cs_i64 ((E.I ρ Y135) + (1))
 try simp only [ea5] at *
 omega
namespace p24
def facts:List E:=[F277,F278,F279,F280,F281,F282,F283,F284,F80,F285,F286,F287,F288,F289,F290,F291,F292,F293,F294,F295,F296,F297,F298,F299,F300,F301,F302,F303]
theorem facts_ok:∀ e∈facts,Tr e:=(ac G277 (ac G278 (ac G279 (ac G280 (ac G281 (ac G282 (ac G283 (ac G284 (ac G80 (ac G285 (ac G286 (ac G287 (ac G288 (ac G289 (ac G290 (ac G291 (ac G292 (ac G293 (ac G294 (ac G295 (ac G296 (ac G297 (ac G298 (ac G299 (ac G300 (ac G301 (ac G302 (ac G303 all_nil))))))))))))))))))))))))))))
end p24
theorem spec24_0:NatOk Try.prog (specNat (spPc)) :=
 spec_of_check good (facts:=p24.facts) p24.facts_ok (anns:=annPc) (plainAnns_ok _ (by kernel_rfl)) (nats:=natl25) natl25_ok (n:=3000) (by kernel_rfl)
def natl26:List Nat1:=specNat (spPc)::natl25
theorem natl26_ok:∀ x∈natl26,NatOk Try.prog x:=by
 intro x hx
 rcases List.mem_cons.1 hx with rfl | hx
 ·exact spec24_0
 exact natl25_ok x hx

def F304:E:=(.imp (.and Y158 (.and Y159 (.and Y21 (.cmp .lss (.int 1) Y4)))) Y167)
theorem G304:Tr F304:=ii4 fun ρ p0 p1 p2 p3=>by
 have:=@z137 ρ Y2 Y3 Y4 Y5 Y0 Y6 Y92 Y160 Y38
 try simp only [smA,smW] at *
 grind
def F305:E:=(.imp (.and Y158 (.and Y159 (.and Y21 (.and Y168 (.and Y124 (.and Y169 (.and (.not Y170) Y175))))))) Y167)
theorem G305:Tr F305:=ii9 fun ρ p0 p1 p2 p3 p4 p5 p6 p7 p8=>by
 have:=@z137 ρ Y2 Y3 Y4 Y5 Y0 Y6 Y92 Y160 Y38
 try simp only [smA,smW] at *
 grind
def F306:E:=(.imp (.and Y158 (.and Y159 (.and Y21 (.and Y168 (.and Y169 (.and Y170 (.cmp .lss Y6 (.int 0)))))))) Y167)
theorem G306:Tr F306:=ii7 fun ρ p0 p1 p2 p3 p4 p5 p6=>by
 have:=@z137 ρ Y2 Y3 Y4 Y5 Y0 Y6 Y92 Y160 Y38
 try simp only [smA,smW] at *
 grind
def F307:E:=(.imp (.and Y158 (.and Y159 (.and Y21 (.and Y168 (.and Y169 (.and Y170 (.and Y90 (.cmp .lss Y92 (.int 0))))))))) Y167)
theorem G307:Tr F307:=ii8 fun ρ p0 p1 p2 p3 p4 p5 p6 p7=>by
 have:=@z137 ρ Y2 Y3 Y4 Y5 Y0 Y6 Y92 Y160 Y38
 try simp only [smA,smW] at *
 grind
def F308:E:=(.imp (.and Y158 (.and Y159 (.and Y21 (.and Y168 (.and Y169 (.and Y170 (.and Y90 (.and Y95 Y176)))))))) Y167)
theorem G308:Tr F308:=ii9 fun ρ p0 p1 p2 p3 p4 p5 p6 p7 p8=>by
 have:=@z137 ρ Y2 Y3 Y4 Y5 Y0 Y6 Y92 Y160 Y38
 try simp only [smA,smW] at *
 grind
def F309:E:=(.imp (.and Y158 (.and Y159 (.and Y21 (.and Y168 (.and Y169 (.and Y170 (.and Y90 (.and Y95 (.and Y177 (.cmp .lss Y38 (.int 0))))))))))) Y167)
theorem G309:Tr F309:=ii10 fun ρ p0 p1 p2 p3 p4 p5 p6 p7 p8 p9=>by
 have:=@z137 ρ Y2 Y3 Y4 Y5 Y0 Y6 Y92 Y160 Y38
 try simp only [smA,smW] at *
 grind
def F310:E:=(.imp (.and Y158 (.and Y159 (.and Y21 (.and Y168 (.and Y169 (.and Y170 (.and Y90 (.and Y95 (.and Y177 (.and Y47 (.and Y172 (.and Y174 Y182)))))))))))) Y183)
theorem G310:Tr F310:=ii15 fun ρ p0 p1 p2 p3 p4 p5 p6 p7 p8 p9 p10 p11 p12 p13 p14=>by
 have:=@z137 ρ Y2 Y3 Y4 Y5 Y0 Y6 Y92 Y160 Y38
 try simp only [smA,smW] at *
 grind
def F311:E:=(.imp (.and Y158 (.and Y159 (.and Y21 (.and Y168 (.and Y169 (.and Y170 (.and Y90 (.and Y95 (.and Y177 Y180))))))))) Y167)
theorem G311:Tr F311:=ii10 fun ρ p0 p1 p2 p3 p4 p5 p6 p7 p8 p9=>by
 have:=@z137 ρ Y2 Y3 Y4 Y5 Y0 Y6 Y92 Y160 Y38
 try simp only [smA,smW] at *
 grind
def F312:E:=(.imp (.and Y158 (.and Y159 (.and Y21 (.and Y168 (.and Y169 (.and Y170 (.and Y90 (.and Y95 Y179)))))))) Y167)
theorem G312:Tr F312:=ii9 fun ρ p0 p1 p2 p3 p4 p5 p6 p7 p8=>by
 have:=@z137 ρ Y2 Y3 Y4 Y5 Y0 Y6 Y92 Y160 Y38
 try simp only [smA,smW] at *
 grind
def F313:E:=(.imp (.and Y158 (.and Y159 (.and Y21 (.and Y168 (.and Y169 (.and Y170 (.and Y90 Y178))))))) Y167)
theorem G313:Tr F313:=ii8 fun ρ p0 p1 p2 p3 p4 p5 p6 p7=>by
 have:=@z137 ρ Y2 Y3 Y4 Y5 Y0 Y6 Y92 Y160 Y38
 try simp only [smA,smW] at *
 grind
def F314:E:=(.imp (.and Y158 (.and Y159 (.and Y21 (.and Y168 (.and Y124 (.and (.not Y169) Y175)))))) Y167)
theorem G314:Tr F314:=ii8 fun ρ p0 p1 p2 p3 p4 p5 p6 p7=>by
 have:=@z137 ρ Y2 Y3 Y4 Y5 Y0 Y6 Y92 Y160 Y38
 try simp only [smA,smW] at *
 grind
def F315:E:=(.imp (.and Y158 (.and Y159 (.and Y21 (.and Y168 (.and Y123 (.and Y13 (.and Y86 (.and Y90 (.and Y95 (.and Y177 (.and Y47 (.and Y172 (.and (.not (.cmp .lss (.int 99) Y5)) (.and (.not (.cmp .lss (.int 99) Y0)) Y182)))))))))))))) Y183)
theorem G315:Tr F315:=ii17 fun ρ p0 p1 p2 p3 p4 p5 p6 p7 p8 p9 p10 p11 p12 p13 p14 p15 p16=>by
 have:=@z137 ρ Y2 Y3 Y4 Y5 Y0 Y6 Y92 Y160 Y38
 try simp only [smA,smW] at *
 grind
def F316:E:=(.imp (.and Y158 (.and Y159 Y20)) Y167)
theorem G316:Tr F316:=ii3 fun ρ p0 p1 p2=>by
 have:=@z137 ρ Y2 Y3 Y4 Y5 Y0 Y6 Y92 Y160 Y38
 try simp only [smA,smW] at *
 grind
def F317:E:=(.imp (.and Y158 (.and Y159 Y173)) Y167)
theorem G317:Tr F317:=ii3 fun ρ p0 p1 p2=>by
 have:=@z137 ρ Y2 Y3 Y4 Y5 Y0 Y6 Y92 Y160 Y38
 try simp only [smA,smW] at *
 grind
namespace p25
def facts:List E:=[F304,F305,F306,F307,F308,F309,F310,F311,F312,F313,F314,F68,F67,F66,F65,F64,F63,F315,F51,F50,F49,F48,F47,F316,F317,F56,F57,F58]
theorem facts_ok:∀ e∈facts,Tr e:=(ac G304 (ac G305 (ac G306 (ac G307 (ac G308 (ac G309 (ac G310 (ac G311 (ac G312 (ac G313 (ac G314 (ac G68 (ac G67 (ac G66 (ac G65 (ac G64 (ac G63 (ac G315 (ac G51 (ac G50 (ac G49 (ac G48 (ac G47 (ac G316 (ac G317 (ac G56 (ac G57 (ac G58 all_nil))))))))))))))))))))))))))))
end p25
theorem spec25_0:NatOk Try.prog (specNat (spOV 71)) :=
 spec_of_check good (facts:=p25.facts) p25.facts_ok (anns:=[]) (plainAnns_ok _ (by kernel_rfl)) (nats:=natl26) natl26_ok (n:=3000) (by kernel_rfl)
def natl27:List Nat1:=specNat (spOV 71)::natl26
theorem natl27_ok:∀ x∈natl27,NatOk Try.prog x:=by
 intro x hx
 rcases List.mem_cons.1 hx with rfl | hx
 ·exact spec25_0
 exact natl26_ok x hx

def F318:E:=(.imp Y78 (.cmp .eql Y184 (.fn 6 (.pr (.fn 134 (.pr Y2 (.int 8))) (.fn 135 (.pr Y2 (.int 0)))))))
theorem G318:Tr F318:=ii1 fun ρ p0=>by
 have:=t117 p0
 have:=@t134 ρ Y2
 have:=@t135_zero ρ Y2 (.int 0)
 try simp only [smA,smW] at *
 have:=@fn0_nn ρ (.fn 1 (.pr Y2 (.int 6)))
 have:=@fn0_nn ρ (.fn 1 (.pr Y2 (.int 7)))
 have:=@fn0_nn ρ (.fn 1 (.pr Y2 (.int 8)))
 have:=@fn0_nn ρ (.fn 1 (.pr Y2 (.int 9)))
 have:=@fn0_nn ρ (.fn 1 (.pr Y2 (.int 20)))
 have:=@fn0_nn ρ (.fn 1 (.pr Y2 (.int 21)))
 have:=@fn0_nn ρ (.fn 1 (.pr Y2 (.int 22)))
 have:=@fn0_nn ρ (.fn 1 (.pr Y2 (.int 23)))
 obtain ⟨a10,ea10,qa10⟩:=cs_i64 ((0) + (E.I ρ (.fn 0 (.fn 1 (.pr Y2 (.int 6))))))
 try simp only [ea10] at *
 obtain ⟨a11,ea11,qa11⟩:=cs_i64 (a10 + (E.I ρ (.fn 0 (.fn 1 (.pr Y2 (.int 7))))))
 try simp only [ea11] at *
 obtain ⟨a12,ea12,qa12⟩:=cs_i64 (a11 + (E.I ρ (.fn 0 (.fn 1 (.pr Y2 (.int 8))))))
 try simp only [ea12] at *
 obtain ⟨a13,ea13,qa13⟩:=cs_i64 (a12 + (E.I ρ (.fn 0 (.fn 1 (.pr Y2 (.int 9))))))
 try simp only [ea13] at *
 obtain ⟨a14,ea14,qa14⟩:=cs_i64 (a13 + (E.I ρ (.fn 0 (.fn 1 (.pr Y2 (.int 20))))))
 try simp only [ea14] at *
 obtain ⟨a15,ea15,qa15⟩:=cs_i64 (a14 + (E.I ρ (.fn 0 (.fn 1 (.pr Y2 (.int 21))))))
 try simp only [ea15] at *
 obtain ⟨a16,ea16,qa16⟩:=cs_i64 (a15 + (E.I ρ (.fn 0 (.fn 1 (.pr Y2 (.int 22))))))
 try simp only [ea16] at *
 obtain ⟨a17,ea17,qa17⟩:=cs_i64 (a16 + (E.I ρ (.fn 0 (.fn 1 (.pr Y2 (.int 23))))))
 try simp only [ea17] at *
 grind
def F319:E:=(.imp Y78 (.not (.cmp .lss Y184 (.int 0))))
theorem G319:Tr F319:=ii1 fun ρ p0=>by
 have:=t117 p0
 try simp only [smA,smW] at *
 have:=@fn0_nn ρ (.fn 1 (.pr Y2 (.int 6)))
 have:=@fn0_nn ρ (.fn 1 (.pr Y2 (.int 7)))
 have:=@fn0_nn ρ (.fn 1 (.pr Y2 (.int 8)))
 have:=@fn0_nn ρ (.fn 1 (.pr Y2 (.int 9)))
 have:=@fn0_nn ρ (.fn 1 (.pr Y2 (.int 20)))
 have:=@fn0_nn ρ (.fn 1 (.pr Y2 (.int 21)))
 have:=@fn0_nn ρ (.fn 1 (.pr Y2 (.int 22)))
 have:=@fn0_nn ρ (.fn 1 (.pr Y2 (.int 23)))
 obtain ⟨a8,ea8,qa8⟩:=cs_i64 ((0) + (E.I ρ (.fn 0 (.fn 1 (.pr Y2 (.int 6))))))
 try simp only [ea8] at *
 obtain ⟨a9,ea9,qa9⟩:=cs_i64 (a8 + (E.I ρ (.fn 0 (.fn 1 (.pr Y2 (.int 7))))))
 try simp only [ea9] at *
 obtain ⟨a10,ea10,qa10⟩:=cs_i64 (a9 + (E.I ρ (.fn 0 (.fn 1 (.pr Y2 (.int 8))))))
 try simp only [ea10] at *
 obtain ⟨a11,ea11,qa11⟩:=cs_i64 (a10 + (E.I ρ (.fn 0 (.fn 1 (.pr Y2 (.int 9))))))
 try simp only [ea11] at *
 obtain ⟨a12,ea12,qa12⟩:=cs_i64 (a11 + (E.I ρ (.fn 0 (.fn 1 (.pr Y2 (.int 20))))))
 try simp only [ea12] at *
 obtain ⟨a13,ea13,qa13⟩:=cs_i64 (a12 + (E.I ρ (.fn 0 (.fn 1 (.pr Y2 (.int 21))))))
 try simp only [ea13] at *
 obtain ⟨a14,ea14,qa14⟩:=cs_i64 (a13 + (E.I ρ (.fn 0 (.fn 1 (.pr Y2 (.int 22))))))
 try simp only [ea14] at *
 obtain ⟨a15,ea15,qa15⟩:=cs_i64 (a14 + (E.I ρ (.fn 0 (.fn 1 (.pr Y2 (.int 23))))))
 try simp only [ea15] at *
 omega
def F320:E:=(.imp Y78 (.not (.cmp .lss (.int 320) Y184)))
theorem G320:Tr F320:=ii1 fun ρ p0=>by
 have:=t117 p0
 try simp only [smA,smW] at *
 have:=@fn0_nn ρ (.fn 1 (.pr Y2 (.int 6)))
 have:=@fn0_nn ρ (.fn 1 (.pr Y2 (.int 7)))
 have:=@fn0_nn ρ (.fn 1 (.pr Y2 (.int 8)))
 have:=@fn0_nn ρ (.fn 1 (.pr Y2 (.int 9)))
 have:=@fn0_nn ρ (.fn 1 (.pr Y2 (.int 20)))
 have:=@fn0_nn ρ (.fn 1 (.pr Y2 (.int 21)))
 have:=@fn0_nn ρ (.fn 1 (.pr Y2 (.int 22)))
 have:=@fn0_nn ρ (.fn 1 (.pr Y2 (.int 23)))
 obtain ⟨a8,ea8,qa8⟩:=cs_i64 ((0) + (E.I ρ (.fn 0 (.fn 1 (.pr Y2 (.int 6))))))
 try simp only [ea8] at *
 obtain ⟨a9,ea9,qa9⟩:=cs_i64 (a8 + (E.I ρ (.fn 0 (.fn 1 (.pr Y2 (.int 7))))))
 try simp only [ea9] at *
 obtain ⟨a10,ea10,qa10⟩:=cs_i64 (a9 + (E.I ρ (.fn 0 (.fn 1 (.pr Y2 (.int 8))))))
 try simp only [ea10] at *
 obtain ⟨a11,ea11,qa11⟩:=cs_i64 (a10 + (E.I ρ (.fn 0 (.fn 1 (.pr Y2 (.int 9))))))
 try simp only [ea11] at *
 obtain ⟨a12,ea12,qa12⟩:=cs_i64 (a11 + (E.I ρ (.fn 0 (.fn 1 (.pr Y2 (.int 20))))))
 try simp only [ea12] at *
 obtain ⟨a13,ea13,qa13⟩:=cs_i64 (a12 + (E.I ρ (.fn 0 (.fn 1 (.pr Y2 (.int 21))))))
 try simp only [ea13] at *
 obtain ⟨a14,ea14,qa14⟩:=cs_i64 (a13 + (E.I ρ (.fn 0 (.fn 1 (.pr Y2 (.int 22))))))
 try simp only [ea14] at *
 obtain ⟨a15,ea15,qa15⟩:=cs_i64 (a14 + (E.I ρ (.fn 0 (.fn 1 (.pr Y2 (.int 23))))))
 try simp only [ea15] at *
 omega
def F321:E:=(.fn 123 (.pr Y2 (.int 0)))
theorem G321:Tr F321:=fun ρ=>by
 unfold F321
 exact t123_zero (by (try simp only [sm_I_int]); omega)
def F322:E:=(.imp (.and Y136 (.and Y185 (.and Y187 (.and (.not Y188) Y190)))) Y191)
theorem G322:Tr F322:=ii6 fun ρ p0 p1 p2 p3 p4 p5=>by
 have:=@t_stR ρ (.fn 6 (.pr Y135 (.int 1))) Y2 Y135 p4 (.fn 1 (.pr (.fn 1 (.pr Y2 (.int 29))) (.fn 6 (.pr (.fn 8 (.pr Y135 (.int 5))) (.int 1))))) (.fn 1 (.pr (.fn 1 (.pr Y2 (.int 29))) (.fn 6 (.pr (.fn 8 (.pr Y135 (.int 5))) (.int 2))))) (.fn 1 (.pr (.fn 1 (.pr Y2 (.int 29))) (.fn 6 (.pr (.fn 8 (.pr Y135 (.int 5))) (.int 3))))) Y186 (.fn 1 (.pr (.fn 1 (.pr Y2 (.int 0))) (.fn 6 (.pr (.fn 8 (.pr Y186 (.int 12))) (.int 1))))) rfl rfl rfl rfl
 try simp only [smA,smW] at *
 grind
def F323:E:=(.imp (.and Y136 (.and Y185 (.and Y187 (.and (.cmp .lss Y186 (.int 0)) Y190)))) Y191)
theorem G323:Tr F323:=ii6 fun ρ p0 p1 p2 p3 p4 p5=>by
 have:=@t_stR ρ (.fn 6 (.pr Y135 (.int 1))) Y2 Y135 p4 (.fn 1 (.pr (.fn 1 (.pr Y2 (.int 29))) (.fn 6 (.pr (.fn 8 (.pr Y135 (.int 5))) (.int 1))))) (.fn 1 (.pr (.fn 1 (.pr Y2 (.int 29))) (.fn 6 (.pr (.fn 8 (.pr Y135 (.int 5))) (.int 2))))) (.fn 1 (.pr (.fn 1 (.pr Y2 (.int 29))) (.fn 6 (.pr (.fn 8 (.pr Y135 (.int 5))) (.int 3))))) Y186 (.fn 1 (.pr (.fn 1 (.pr Y2 (.int 0))) (.fn 6 (.pr (.fn 8 (.pr Y186 (.int 12))) (.int 1))))) rfl rfl rfl rfl
 try simp only [smA,smW] at *
 grind
def F324:E:=(.imp (.and (.not Y136) (.and Y192 Y144)) (.cmp .eql Y141 (.fn 6 (.pr (.fn 134 (.pr Y2 (.int 8))) (.fn 135 (.pr Y2 (.fn 9 (.pr (.fn 1 (.pr Y2 (.int 29))) (.int 5)))))))))
theorem G324:Tr F324:=ii3 fun ρ p0 p1 p2=>by
 have:=@t135_eq ρ (.fn 9 (.pr (.fn 1 (.pr Y2 (.int 29))) (.int 5))) Y2 Y135
 try simp only [smA,smW] at *
 grind
def F325:E:=(.imp (.and (.not Y136) (.and Y78 (.and Y189 Y144))) Y193)
theorem G325:Tr F325:=ii4 fun ρ p0 p1 p2 p3=>by
 have g0:E.I ρ (.fn 9 (.pr (.fn 1 (.pr Y2 (.int 29))) (.int 5)))=E.I ρ Y135:=by
  have:=t117 p1
  have:=nn9 ρ (.pr (.fn 1 (.pr Y2 (.int 29))) (.int 5))
  try simp only [smA,smW] at *
  omega
 exact t123_eq p2 g0
def F326:E:=(.imp (.and Y136 (.and (.not Y185) (.and Y78 Y194))) (.cmp .eql Y141 (.fn 6 (.pr (.fn 134 (.pr Y2 (.int 8))) (.fn 135 (.pr Y2 Y140))))))
theorem G326:Tr F326:=ii5 fun ρ p0 p1 p2 p3 p4=>by
 have:=t117 p2
 have:=@wrap_add ρ Y135 (.int 1)
 have:=@t135_step ρ Y140 Y2 Y135 (.fn 1 (.pr (.fn 1 (.pr Y2 (.int 29))) (.fn 6 (.pr (.fn 8 (.pr Y135 (.int 5))) (.int 3))))) rfl
 try simp only [smA,smW] at *
 grind
def F327:E:=(.imp (.and Y136 (.and Y185 Y199)) (.cmp .eql Y155 (.fn 6 (.pr (.fn 134 (.pr Y2 (.int 8))) (.fn 135 (.pr Y2 Y140))))))
theorem G327:Tr F327:=ii7 fun ρ p0 p1 p2 p3 p4 p5 p6=>by
 have:=t117 p2
 have:=@wrap_add ρ Y135 (.int 1)
 have:=@t135_step ρ Y140 Y2 Y135 (.fn 1 (.pr (.fn 1 (.pr Y2 (.int 29))) (.fn 6 (.pr (.fn 8 (.pr Y135 (.int 5))) (.int 3))))) rfl
 try simp only [smA,smW] at *
 obtain ⟨a9,ea9,qa9⟩:=cs_i64 ((E.I ρ Y141) + (1))
 try simp only [ea9] at *
 grind
def F328:E:=(.fn 124 (.pr Y2 (.int 0)))
theorem G328:Tr F328:=fun ρ=>by
 unfold F328
 exact t124_zero (by (try simp only [sm_I_int]); omega)
def F329:E:=(.imp (.and Y136 (.and Y78 (.and Y196 Y194))) (.not (.cmp .lss (.fn 6 (.pr (.int 320) Y140)) Y141)))
theorem G329:Tr F329:=ii5 fun ρ p0 p1 p2 p3 p4=>by
 have:=t117 p1
 try simp only [smA,smW] at *
 obtain ⟨a5,ea5,qa5⟩:=cs_i64 ((E.I ρ Y135) + (1))
 try simp only [ea5] at *
 omega
def F330:E:=(.imp Y200 (.not (.cmp .lss Y155 (.int 0))))
theorem G330:Tr F330:=ii6 fun ρ p0 p1 p2 p3 p4 p5=>by
 have:=t117 p1
 try simp only [smA,smW] at *
 obtain ⟨a7,ea7,qa7⟩:=cs_i64 ((E.I ρ Y141) + (1))
 try simp only [ea7] at *
 omega
def F331:E:=(.imp (.and Y78 Y204) (.not (.cmp .lss Y205 (.int 0))))
theorem G331:Tr F331:=ii3 fun ρ p0 p1 p2=>by
 have:=t117 p0
 try simp only [smA,smW] at *
 obtain ⟨a5,ea5,qa5⟩:=cs_i64 ((E.I ρ Y201) - (1))
 try simp only [ea5] at *
 omega
def F332:E:=(.imp (.and Y207 Y206) (.not (.cmp .lss (.fn 1 (.pr (.fn 1 (.pr Y2 (.int 0))) (.fn 6 (.pr (.fn 8 (.pr Y201 (.int 12))) (.int 2))))) (.int 0))))
theorem G332:Tr F332:=ii2 fun ρ p0 p1=>by
 have:=@z137 ρ (.fn 1 (.pr (.fn 1 (.pr Y2 (.int 0))) (.fn 6 (.pr (.fn 8 (.pr Y201 (.int 12))) (.int 0))))) (.fn 1 (.pr (.fn 1 (.pr Y2 (.int 0))) (.fn 6 (.pr (.fn 8 (.pr Y201 (.int 12))) (.int 1))))) (.fn 1 (.pr (.fn 1 (.pr Y2 (.int 0))) (.fn 6 (.pr (.fn 8 (.pr Y201 (.int 12))) (.int 2))))) (.fn 1 (.pr (.fn 1 (.pr Y2 (.int 0))) (.fn 6 (.pr (.fn 8 (.pr Y201 (.int 12))) (.int 3))))) (.fn 1 (.pr (.fn 1 (.pr Y2 (.int 0))) (.fn 6 (.pr (.fn 8 (.pr Y201 (.int 12))) (.int 4))))) (.fn 1 (.pr (.fn 1 (.pr Y2 (.int 0))) (.fn 6 (.pr (.fn 8 (.pr Y201 (.int 12))) (.int 5))))) (.fn 1 (.pr (.fn 1 (.pr Y2 (.int 0))) (.fn 6 (.pr (.fn 8 (.pr Y201 (.int 12))) (.int 6))))) (.fn 1 (.pr (.fn 1 (.pr Y2 (.int 0))) (.fn 6 (.pr (.fn 8 (.pr Y201 (.int 12))) (.int 7))))) (.fn 1 (.pr (.fn 1 (.pr Y2 (.int 0))) (.fn 6 (.pr (.fn 8 (.pr Y201 (.int 12))) (.int 8)))))
 try simp only [smA,smW] at *
 grind
def F333:E:=(.imp (.and (.not Y202) (.and Y208 (.and Y193 (.and (.cmp .eql (.var 25) (.fn 6 (.pr (.fn 134 (.pr Y2 (.int 8))) (.fn 135 (.pr Y2 (.fn 9 (.pr (.fn 1 (.pr Y2 (.int 29))) (.int 5)))))))) (.not (.cmp .lss (.fn 9 (.pr (.fn 1 (.pr Y2 (.int 0))) (.int 12))) Y201)))))) (.iff (.cmp .eql (.var 25) (.fn 9 (.pr (.fn 1 (.pr Y2 (.int 0))) (.int 12)))) (.fn 125 Y2)))
theorem G333:Tr F333:=ii5 fun ρ p0 p1 p2 p3 p4=>by
 have:=@t_found ρ Y201 Y2 (.var 25) p2 p1
 try simp only [smA,smW] at *
 grind
def F334:E:=(.imp (.and Y136 (.and (.not Y185) Y209)) (.fn 123 (.pr Y2 Y140)))
theorem G334:Tr F334:=ii5 fun ρ p0 p1 p2 p3 p4=>by
 have:=t117 p2
 have:=@wrap_add ρ Y135 (.int 1)
 have:=@t_stR ρ Y140 Y2 Y135 p3 (.fn 1 (.pr (.fn 1 (.pr Y2 (.int 29))) (.fn 6 (.pr (.fn 8 (.pr Y135 (.int 5))) (.int 1))))) (.fn 1 (.pr (.fn 1 (.pr Y2 (.int 29))) (.fn 6 (.pr (.fn 8 (.pr Y135 (.int 5))) (.int 2))))) (.fn 1 (.pr (.fn 1 (.pr Y2 (.int 29))) (.fn 6 (.pr (.fn 8 (.pr Y135 (.int 5))) (.int 3))))) (.int 0) (.fn 1 (.pr (.fn 1 (.pr Y2 (.int 0))) (.fn 6 (.pr (.fn 8 (.pr (.int 0) (.int 12))) (.int 1))))) rfl rfl rfl rfl
 try simp only [smA,smW] at *
 grind
def F335:E:=(.imp Y200 (.not (.cmp .lss (.fn 6 (.pr (.int 320) Y140)) Y155)))
theorem G335:Tr F335:=ii6 fun ρ p0 p1 p2 p3 p4 p5=>by
 have:=t117 p1
 try simp only [smA,smW] at *
 obtain ⟨a7,ea7,qa7⟩:=cs_i64 ((E.I ρ Y135) + (1))
 try simp only [ea7] at *
 obtain ⟨a8,ea8,qa8⟩:=cs_i64 ((E.I ρ Y141) + (1))
 try simp only [ea8] at *
 omega
def F336:E:=(.imp Y204 (.cmp .lss Y205 (.fn 9 (.pr (.fn 1 (.pr Y2 (.int 0))) (.int 12)))))
theorem G336:Tr F336:=ii2 fun ρ p0 p1=>by
 try simp only [smA,smW] at *
 obtain ⟨a5,ea5,qa5⟩:=cs_i64 ((E.I ρ Y201) - (1))
 try simp only [ea5] at *
 omega
def F337:E:=(.imp (.and Y207 Y206) (.not (.cmp .lss (.int 1) (.fn 1 (.pr (.fn 1 (.pr Y2 (.int 0))) (.fn 6 (.pr (.fn 8 (.pr Y201 (.int 12))) (.int 2))))))))
theorem G337:Tr F337:=ii2 fun ρ p0 p1=>by
 have:=@z137 ρ (.fn 1 (.pr (.fn 1 (.pr Y2 (.int 0))) (.fn 6 (.pr (.fn 8 (.pr Y201 (.int 12))) (.int 0))))) (.fn 1 (.pr (.fn 1 (.pr Y2 (.int 0))) (.fn 6 (.pr (.fn 8 (.pr Y201 (.int 12))) (.int 1))))) (.fn 1 (.pr (.fn 1 (.pr Y2 (.int 0))) (.fn 6 (.pr (.fn 8 (.pr Y201 (.int 12))) (.int 2))))) (.fn 1 (.pr (.fn 1 (.pr Y2 (.int 0))) (.fn 6 (.pr (.fn 8 (.pr Y201 (.int 12))) (.int 3))))) (.fn 1 (.pr (.fn 1 (.pr Y2 (.int 0))) (.fn 6 (.pr (.fn 8 (.pr Y201 (.int 12))) (.int 4))))) (.fn 1 (.pr (.fn 1 (.pr Y2 (.int 0))) (.fn 6 (.pr (.fn 8 (.pr Y201 (.int 12))) (.int 5))))) (.fn 1 (.pr (.fn 1 (.pr Y2 (.int 0))) (.fn 6 (.pr (.fn 8 (.pr Y201 (.int 12))) (.int 6))))) (.fn 1 (.pr (.fn 1 (.pr Y2 (.int 0))) (.fn 6 (.pr (.fn 8 (.pr Y201 (.int 12))) (.int 7))))) (.fn 1 (.pr (.fn 1 (.pr Y2 (.int 0))) (.fn 6 (.pr (.fn 8 (.pr Y201 (.int 12))) (.int 8)))))
 try simp only [smA,smW] at *
 grind
def F338:E:=(.imp (.and Y136 (.and Y185 (.and Y187 (.and (.not (.cmp .lss Y186 (.int 0))) (.and Y188 Y209))))) (.fn 123 (.pr Y2 Y140)))
theorem G338:Tr F338:=ii8 fun ρ p0 p1 p2 p3 p4 p5 p6 p7=>by
 have:=t117 p5
 have:=@wrap_add ρ Y135 (.int 1)
 have:=@t_stR ρ Y140 Y2 Y135 p6 (.fn 1 (.pr (.fn 1 (.pr Y2 (.int 29))) (.fn 6 (.pr (.fn 8 (.pr Y135 (.int 5))) (.int 1))))) (.fn 1 (.pr (.fn 1 (.pr Y2 (.int 29))) (.fn 6 (.pr (.fn 8 (.pr Y135 (.int 5))) (.int 2))))) (.fn 1 (.pr (.fn 1 (.pr Y2 (.int 29))) (.fn 6 (.pr (.fn 8 (.pr Y135 (.int 5))) (.int 3))))) Y186 (.fn 1 (.pr (.fn 1 (.pr Y2 (.int 0))) (.fn 6 (.pr (.fn 8 (.pr Y186 (.int 12))) (.int 1))))) rfl rfl rfl rfl
 try simp only [smA,smW] at *
 grind
def F339:E:=(.imp (.and Y202 (.and Y207 (.and Y206 (.and Y210 (.and Y211 (.and (.not Y212) Y215)))))) Y191)
theorem G339:Tr F339:=ii8 fun ρ p0 p1 p2 p3 p4 p5 p6 p7=>by
 have:=@wrap_sub ρ Y201 (.int 1)
 have:=@t_obR10 ρ Y201 (.fn 6 (.pr Y201 (.int 1))) Y2 p6 Y205 (.fn 1 (.pr (.fn 1 (.pr Y2 (.int 0))) (.fn 6 (.pr (.fn 8 (.pr Y201 (.int 12))) (.int 0))))) (.fn 1 (.pr (.fn 1 (.pr Y2 (.int 0))) (.fn 6 (.pr (.fn 8 (.pr Y201 (.int 12))) (.int 1))))) (.fn 1 (.pr (.fn 1 (.pr Y2 (.int 0))) (.fn 6 (.pr (.fn 8 (.pr Y201 (.int 12))) (.int 2))))) (.fn 1 (.pr (.fn 1 (.pr Y2 (.int 0))) (.fn 6 (.pr (.fn 8 (.pr Y201 (.int 12))) (.int 3))))) (.fn 1 (.pr (.fn 1 (.pr Y2 (.int 0))) (.fn 6 (.pr (.fn 8 (.pr Y201 (.int 12))) (.int 4))))) (.fn 1 (.pr (.fn 1 (.pr Y2 (.int 0))) (.fn 6 (.pr (.fn 8 (.pr Y201 (.int 12))) (.int 5))))) (.fn 1 (.pr (.fn 1 (.pr Y2 (.int 0))) (.fn 6 (.pr (.fn 8 (.pr Y201 (.int 12))) (.int 6))))) (.fn 1 (.pr (.fn 1 (.pr Y2 (.int 0))) (.fn 6 (.pr (.fn 8 (.pr Y201 (.int 12))) (.int 7))))) (.fn 1 (.pr (.fn 1 (.pr Y2 (.int 0))) (.fn 6 (.pr (.fn 8 (.pr Y201 (.int 12))) (.int 8))))) rfl rfl rfl rfl rfl rfl rfl rfl rfl
 try simp only [smA,smW] at *
 grind
def F340:E:=(.imp Y216 (.not (.cmp .lss Y217 (.int 0))))
theorem G340:Tr F340:=ii2 fun ρ p0 p1=>by
 try simp only [smA,smW] at *
 obtain ⟨a6,ea6,qa6⟩:=cs_i64 ((E.I ρ Y201) + (1))
 try simp only [ea6] at *
 omega
def F341:E:=(.imp (.and Y202 (.and Y207 (.and Y206 (.and Y203 (.and Y218 (.and Y211 (.and (.not Y212) Y219))))))) Y191)
theorem G341:Tr F341:=ii10 fun ρ p0 p1 p2 p3 p4 p5 p6 p7 p8 p9=>by
 have:=t117 p9
 have:=@wrap_sub ρ Y201 (.int 1)
 have:=@t_obR10 ρ Y201 (.fn 6 (.pr Y201 (.int 1))) Y2 p7 Y205 (.fn 1 (.pr (.fn 1 (.pr Y2 (.int 0))) (.fn 6 (.pr (.fn 8 (.pr Y201 (.int 12))) (.int 0))))) (.fn 1 (.pr (.fn 1 (.pr Y2 (.int 0))) (.fn 6 (.pr (.fn 8 (.pr Y201 (.int 12))) (.int 1))))) (.fn 1 (.pr (.fn 1 (.pr Y2 (.int 0))) (.fn 6 (.pr (.fn 8 (.pr Y201 (.int 12))) (.int 2))))) (.fn 1 (.pr (.fn 1 (.pr Y2 (.int 0))) (.fn 6 (.pr (.fn 8 (.pr Y201 (.int 12))) (.int 3))))) (.fn 1 (.pr (.fn 1 (.pr Y2 (.int 0))) (.fn 6 (.pr (.fn 8 (.pr Y201 (.int 12))) (.int 4))))) (.fn 1 (.pr (.fn 1 (.pr Y2 (.int 0))) (.fn 6 (.pr (.fn 8 (.pr Y201 (.int 12))) (.int 5))))) (.fn 1 (.pr (.fn 1 (.pr Y2 (.int 0))) (.fn 6 (.pr (.fn 8 (.pr Y201 (.int 12))) (.int 6))))) (.fn 1 (.pr (.fn 1 (.pr Y2 (.int 0))) (.fn 6 (.pr (.fn 8 (.pr Y201 (.int 12))) (.int 7))))) (.fn 1 (.pr (.fn 1 (.pr Y2 (.int 0))) (.fn 6 (.pr (.fn 8 (.pr Y201 (.int 12))) (.int 8))))) rfl rfl rfl rfl rfl rfl rfl rfl rfl
 try simp only [smA,smW] at *
 grind
def F342:E:=(.imp (.and Y78 Y204) (.not (.cmp .lss Y217 (.int 0))))
theorem G342:Tr F342:=ii3 fun ρ p0 p1 p2=>by
 have:=t117 p0
 try simp only [smA,smW] at *
 obtain ⟨a7,ea7,qa7⟩:=cs_i64 ((E.I ρ Y201) + (1))
 try simp only [ea7] at *
 omega
def F343:E:=(.imp (.and Y202 (.and Y207 (.and Y206 (.and Y203 (.and (.not Y218) Y219))))) Y191)
theorem G343:Tr F343:=ii8 fun ρ p0 p1 p2 p3 p4 p5 p6 p7=>by
 have:=t117 p7
 have:=@wrap_sub ρ Y201 (.int 1)
 have:=@t_obR10 ρ Y201 (.fn 6 (.pr Y201 (.int 1))) Y2 p5 Y205 (.fn 1 (.pr (.fn 1 (.pr Y2 (.int 0))) (.fn 6 (.pr (.fn 8 (.pr Y201 (.int 12))) (.int 0))))) (.fn 1 (.pr (.fn 1 (.pr Y2 (.int 0))) (.fn 6 (.pr (.fn 8 (.pr Y201 (.int 12))) (.int 1))))) (.fn 1 (.pr (.fn 1 (.pr Y2 (.int 0))) (.fn 6 (.pr (.fn 8 (.pr Y201 (.int 12))) (.int 2))))) (.fn 1 (.pr (.fn 1 (.pr Y2 (.int 0))) (.fn 6 (.pr (.fn 8 (.pr Y201 (.int 12))) (.int 3))))) (.fn 1 (.pr (.fn 1 (.pr Y2 (.int 0))) (.fn 6 (.pr (.fn 8 (.pr Y201 (.int 12))) (.int 4))))) (.fn 1 (.pr (.fn 1 (.pr Y2 (.int 0))) (.fn 6 (.pr (.fn 8 (.pr Y201 (.int 12))) (.int 5))))) (.fn 1 (.pr (.fn 1 (.pr Y2 (.int 0))) (.fn 6 (.pr (.fn 8 (.pr Y201 (.int 12))) (.int 6))))) (.fn 1 (.pr (.fn 1 (.pr Y2 (.int 0))) (.fn 6 (.pr (.fn 8 (.pr Y201 (.int 12))) (.int 7))))) (.fn 1 (.pr (.fn 1 (.pr Y2 (.int 0))) (.fn 6 (.pr (.fn 8 (.pr Y201 (.int 12))) (.int 8))))) rfl rfl rfl rfl rfl rfl rfl rfl rfl
 try simp only [smA,smW] at *
 grind
def F344:E:=(.imp (.and Y202 (.and Y207 (.and (.not Y206) Y219))) Y191)
theorem G344:Tr F344:=ii6 fun ρ p0 p1 p2 p3 p4 p5=>by
 have:=t117 p5
 have:=@wrap_sub ρ Y201 (.int 1)
 have:=@t_obR10 ρ Y201 (.fn 6 (.pr Y201 (.int 1))) Y2 p3 Y205 (.fn 1 (.pr (.fn 1 (.pr Y2 (.int 0))) (.fn 6 (.pr (.fn 8 (.pr Y201 (.int 12))) (.int 0))))) (.fn 1 (.pr (.fn 1 (.pr Y2 (.int 0))) (.fn 6 (.pr (.fn 8 (.pr Y201 (.int 12))) (.int 1))))) (.fn 1 (.pr (.fn 1 (.pr Y2 (.int 0))) (.fn 6 (.pr (.fn 8 (.pr Y201 (.int 12))) (.int 2))))) (.fn 1 (.pr (.fn 1 (.pr Y2 (.int 0))) (.fn 6 (.pr (.fn 8 (.pr Y201 (.int 12))) (.int 3))))) (.fn 1 (.pr (.fn 1 (.pr Y2 (.int 0))) (.fn 6 (.pr (.fn 8 (.pr Y201 (.int 12))) (.int 4))))) (.fn 1 (.pr (.fn 1 (.pr Y2 (.int 0))) (.fn 6 (.pr (.fn 8 (.pr Y201 (.int 12))) (.int 5))))) (.fn 1 (.pr (.fn 1 (.pr Y2 (.int 0))) (.fn 6 (.pr (.fn 8 (.pr Y201 (.int 12))) (.int 6))))) (.fn 1 (.pr (.fn 1 (.pr Y2 (.int 0))) (.fn 6 (.pr (.fn 8 (.pr Y201 (.int 12))) (.int 7))))) (.fn 1 (.pr (.fn 1 (.pr Y2 (.int 0))) (.fn 6 (.pr (.fn 8 (.pr Y201 (.int 12))) (.int 8))))) rfl rfl rfl rfl rfl rfl rfl rfl rfl
 try simp only [smA,smW] at *
 grind
def F345:E:=(.imp Y220 Y222)
theorem G345:Tr F345:=ii3 fun ρ p0 p1 p2=>by
 try simp only [smA,smW] at *
 obtain ⟨a7,ea7,qa7⟩:=cs_i64 ((E.I ρ Y201) + (1))
 try simp only [ea7] at *
 omega
def F346:E:=(.imp Y204 Y222)
theorem G346:Tr F346:=ii2 fun ρ p0 p1=>by
 try simp only [smA,smW] at *
 obtain ⟨a7,ea7,qa7⟩:=cs_i64 ((E.I ρ Y201) + (1))
 try simp only [ea7] at *
 omega
def F347:E:=(.imp (.and Y202 (.and Y207 (.and Y206 (.and Y210 (.and Y211 (.and Y212 Y215)))))) (.fn 124 (.pr Y2 Y217)))
theorem G347:Tr F347:=ii8 fun ρ p0 p1 p2 p3 p4 p5 p6 p7=>by
 have:=@wrap_add ρ Y201 (.int 1)
 have:=@wrap_sub ρ Y201 (.int 1)
 have:=@t_obR10 ρ Y201 Y217 Y2 p6 Y205 (.fn 1 (.pr (.fn 1 (.pr Y2 (.int 0))) (.fn 6 (.pr (.fn 8 (.pr Y201 (.int 12))) (.int 0))))) (.fn 1 (.pr (.fn 1 (.pr Y2 (.int 0))) (.fn 6 (.pr (.fn 8 (.pr Y201 (.int 12))) (.int 1))))) (.fn 1 (.pr (.fn 1 (.pr Y2 (.int 0))) (.fn 6 (.pr (.fn 8 (.pr Y201 (.int 12))) (.int 2))))) (.fn 1 (.pr (.fn 1 (.pr Y2 (.int 0))) (.fn 6 (.pr (.fn 8 (.pr Y201 (.int 12))) (.int 3))))) (.fn 1 (.pr (.fn 1 (.pr Y2 (.int 0))) (.fn 6 (.pr (.fn 8 (.pr Y201 (.int 12))) (.int 4))))) (.fn 1 (.pr (.fn 1 (.pr Y2 (.int 0))) (.fn 6 (.pr (.fn 8 (.pr Y201 (.int 12))) (.int 5))))) (.fn 1 (.pr (.fn 1 (.pr Y2 (.int 0))) (.fn 6 (.pr (.fn 8 (.pr Y201 (.int 12))) (.int 6))))) (.fn 1 (.pr (.fn 1 (.pr Y2 (.int 0))) (.fn 6 (.pr (.fn 8 (.pr Y201 (.int 12))) (.int 7))))) (.fn 1 (.pr (.fn 1 (.pr Y2 (.int 0))) (.fn 6 (.pr (.fn 8 (.pr Y201 (.int 12))) (.int 8))))) rfl rfl rfl rfl rfl rfl rfl rfl rfl
 try simp only [smA,smW] at *
 grind
def F348:E:=(.imp (.and Y202 (.and Y207 (.and Y206 (.and Y203 (.and Y218 (.and Y211 (.and Y212 Y219))))))) (.fn 124 (.pr Y2 Y217)))
theorem G348:Tr F348:=ii10 fun ρ p0 p1 p2 p3 p4 p5 p6 p7 p8 p9=>by
 have:=t117 p9
 have:=@wrap_sub ρ Y201 (.int 1)
 have:=@wrap_add ρ Y201 (.int 1)
 have:=@t_obR10 ρ Y201 Y217 Y2 p7 Y205 (.fn 1 (.pr (.fn 1 (.pr Y2 (.int 0))) (.fn 6 (.pr (.fn 8 (.pr Y201 (.int 12))) (.int 0))))) (.fn 1 (.pr (.fn 1 (.pr Y2 (.int 0))) (.fn 6 (.pr (.fn 8 (.pr Y201 (.int 12))) (.int 1))))) (.fn 1 (.pr (.fn 1 (.pr Y2 (.int 0))) (.fn 6 (.pr (.fn 8 (.pr Y201 (.int 12))) (.int 2))))) (.fn 1 (.pr (.fn 1 (.pr Y2 (.int 0))) (.fn 6 (.pr (.fn 8 (.pr Y201 (.int 12))) (.int 3))))) (.fn 1 (.pr (.fn 1 (.pr Y2 (.int 0))) (.fn 6 (.pr (.fn 8 (.pr Y201 (.int 12))) (.int 4))))) (.fn 1 (.pr (.fn 1 (.pr Y2 (.int 0))) (.fn 6 (.pr (.fn 8 (.pr Y201 (.int 12))) (.int 5))))) (.fn 1 (.pr (.fn 1 (.pr Y2 (.int 0))) (.fn 6 (.pr (.fn 8 (.pr Y201 (.int 12))) (.int 6))))) (.fn 1 (.pr (.fn 1 (.pr Y2 (.int 0))) (.fn 6 (.pr (.fn 8 (.pr Y201 (.int 12))) (.int 7))))) (.fn 1 (.pr (.fn 1 (.pr Y2 (.int 0))) (.fn 6 (.pr (.fn 8 (.pr Y201 (.int 12))) (.int 8))))) rfl rfl rfl rfl rfl rfl rfl rfl rfl
 try simp only [smA,smW] at *
 grind
def F349:E:=(.imp Y216 Y223)
theorem G349:Tr F349:=ii2 fun ρ p0 p1=>by
 try simp only [smA,smW] at *
 obtain ⟨a7,ea7,qa7⟩:=cs_i64 ((E.I ρ Y201) + (1))
 try simp only [ea7] at *
 omega
def F350:E:=(.imp (.and Y78 Y204) Y223)
theorem G350:Tr F350:=ii3 fun ρ p0 p1 p2=>by
 have:=t117 p0
 try simp only [smA,smW] at *
 obtain ⟨a7,ea7,qa7⟩:=cs_i64 ((E.I ρ Y201) + (1))
 try simp only [ea7] at *
 omega
def F351:E:=(.imp Y220 Y225)
theorem G351:Tr F351:=ii3 fun ρ p0 p1 p2=>by
 try simp only [smA,smW] at *
 obtain ⟨a7,ea7,qa7⟩:=cs_i64 ((E.I ρ Y201) + (1))
 try simp only [ea7] at *
 omega
def F352:E:=(.imp Y204 Y225)
theorem G352:Tr F352:=ii2 fun ρ p0 p1=>by
 try simp only [smA,smW] at *
 obtain ⟨a7,ea7,qa7⟩:=cs_i64 ((E.I ρ Y201) + (1))
 try simp only [ea7] at *
 omega
namespace p26
def facts:List E:=[F80,F105,F318,F319,F320,F321,F291,F322,F323,F324,F293,F325,F326,F327,F328,F329,F330,F331,F332,F333,F334,F335,F336,F337,F302,F338,F303,F339,F340,F341,F342,F343,F344,F345,F346,F347,F348,F349,F350,F351,F352]
theorem facts_ok:∀ e∈facts,Tr e:=(ac G80 (ac G105 (ac G318 (ac G319 (ac G320 (ac G321 (ac G291 (ac G322 (ac G323 (ac G324 (ac G293 (ac G325 (ac G326 (ac G327 (ac G328 (ac G329 (ac G330 (ac G331 (ac G332 (ac G333 (ac G334 (ac G335 (ac G336 (ac G337 (ac G302 (ac G338 (ac G303 (ac G339 (ac G340 (ac G341 (ac G342 (ac G343 (ac G344 (ac G345 (ac G346 (ac G347 (ac G348 (ac G349 (ac G350 (ac G351 (ac G352 all_nil)))))))))))))))))))))))))))))))))))))))))
end p26
theorem spec26_0:NatOk Try.prog (specNat (spFd)) :=
 spec_of_check good (facts:=p26.facts) p26.facts_ok (anns:=annFd) (plainAnns_ok _ (by kernel_rfl)) (nats:=natl27) natl27_ok (n:=3000) (by kernel_rfl)
def natl28:List Nat1:=specNat (spFd)::natl27
theorem natl28_ok:∀ x∈natl28,NatOk Try.prog x:=by
 intro x hx
 rcases List.mem_cons.1 hx with rfl | hx
 ·exact spec26_0
 exact natl27_ok x hx

end
end Go.Proofs.Ytnnbmcfabojjjaa.paySources
