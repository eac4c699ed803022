/-
  ViewHidden: contracts of functions, part 1.
-/
import Derived.Test.YtoicbojdnjcmiaaRows
import Derived.Test.YtoicbojdnjcmiaaNat
import Derived.WalkKit
import Derived.ProofKit
import Derived.OpenShut
import Derived.ChangeOld
import Derived.Below
import Derived.KernelRfl
import Derived.Lib.SmallJoins
namespace Go.Proofs.Ytoicbojdnjcmiaa.viewHidden
open Go.ChangeShapes Go.WideShapes Go.ChangeAt Go.RowKit
open Go.SX
set_option linter.unusedVariables false
set_option linter.unusedSimpArgs false
set_option maxRecDepth 100000
noncomputable section
abbrev Q0:E:=.var 0
abbrev Q1:E:=.var 4
abbrev Q2:E:=.cmp .lss Q1 (.fn 9 (.pr Q0 (.int 2)))
abbrev Q3:E:=.cmp .lss (.fn 1 (.pr Q0 (.fn 6 (.pr (.fn 8 (.pr Q1 (.int 2))) (.int 0))))) (.int 0)
abbrev Q4:E:=.not (.cmp .lss Q1 (.int 0))
abbrev Q5:E:=.fn 101 (.pr Q0 (.fn 9 (.pr Q0 (.int 2))))
abbrev Q6:E:=.not Q5
abbrev Q7:E:=.iff Q4 Q6
abbrev Q8:E:=.not Q3
abbrev Q9:E:=.cmp .lss (.fn 1 (.pr Q0 (.fn 6 (.pr (.fn 8 (.pr Q1 (.int 2))) (.int 1))))) (.int 0)
abbrev Q10:E:=.cmp .lss (.int 1) (.fn 1 (.pr Q0 (.fn 6 (.pr (.fn 8 (.pr Q1 (.int 2))) (.int 1)))))
abbrev Q11:E:=.cmp .eql (.fn 1 (.pr Q0 (.fn 6 (.pr (.fn 8 (.pr Q1 (.int 2))) (.int 0))))) (.int 0)
abbrev Q12:E:=.cmp .eql (.fn 1 (.pr Q0 (.fn 6 (.pr (.fn 8 (.pr Q1 (.int 2))) (.int 1))))) (.int 0)
abbrev Q13:E:=.cmp .lss (.int 1000) (.fn 9 (.pr Q0 (.int 2)))
abbrev Q14:E:=.not Q13
abbrev Q15:E:=.and Q4 Q14
abbrev Q16:E:=.and Q2 Q15
abbrev Q17:E:=.ar .add .i64 Q1 (.int 1)
abbrev Q18:E:=.cmp .lss Q17 (.int 0)
abbrev Q19:E:=.not Q18
abbrev Q20:E:=.cmp .lss (.int 500) (.fn 1 (.pr Q0 (.fn 6 (.pr (.fn 8 (.pr Q1 (.int 2))) (.int 0)))))
abbrev Q21:E:=.fn 101 (.pr Q0 Q1)
abbrev Q22:E:=.bool false
abbrev Q23:E:=.and Q21 Q15
abbrev Q24:E:=.and (.not Q20) Q23
abbrev Q25:E:=.var 1
abbrev Q26:E:=.var 2
abbrev Q27:E:=.var 3
abbrev Q28:E:=.var 5
abbrev Q29:E:=.pr Q27 (.pr Q1 Q28)
abbrev Q30:E:=.pr Q26 Q29
abbrev Q31:E:=.pr Q25 Q30
abbrev Q32:E:=.pr Q0 Q31
abbrev Q33:E:=.fn 102 Q32
abbrev Q34:E:=.iff Q22 Q33
abbrev Q35:E:=.not (.cmp .lss Q0 (.int 0))
abbrev Q36:E:=.not (.cmp .lss (.int 1) Q0)
abbrev Q37:E:=.not (.cmp .lss Q25 (.int 1))
abbrev Q38:E:=.not (.cmp .lss Q26 (.int 0))
abbrev Q39:E:=.not (.cmp .lss Q27 (.int (-1)))
abbrev Q40:E:=.not (.cmp .lss (.int 1) Q27)
abbrev Q41:E:=.cmp .lss (.int 4) (.fn 9 (.pr Q1 (.int 2)))
abbrev Q42:E:=.cmp .lss Q27 (.int 0)
abbrev Q43:E:=.not Q42
abbrev Q44:E:=.cmp .lss (.int 0) (.fn 9 (.pr Q1 (.int 2)))
abbrev Q45:E:=.var 6
abbrev Q46:E:=.cmp .lss Q45 (.int 0)
abbrev Q47:E:=.not Q46
abbrev Q48:E:=.pr Q1 (.fn 9 (.pr Q1 (.int 2)))
abbrev Q49:E:=.fn 101 Q48
abbrev Q50:E:=.not Q49
abbrev Q51:E:=.iff Q47 Q50
abbrev Q52:E:=.cmp .lss (.int 500) Q25
abbrev Q53:E:=.not Q52
abbrev Q54:E:=.cmp .lss (.int 399) Q26
abbrev Q55:E:=.not Q54
abbrev Q56:E:=.and Q53 Q55
abbrev Q57:E:=.and Q51 Q56
abbrev Q58:E:=.iff Q46 Q33
abbrev Q59:E:=.cmp .lss Q1 (.fn 9 (.pr Q0 (.int 5)))
abbrev Q60:E:=.pr (.fn 1 (.pr Q0 (.fn 6 (.pr (.fn 8 (.pr Q1 (.int 5))) (.int 4))))) Q22
abbrev Q61:E:=.pr (.fn 1 (.pr Q0 (.fn 6 (.pr (.fn 8 (.pr Q1 (.int 5))) (.int 3))))) Q60
abbrev Q62:E:=.pr (.fn 1 (.pr Q0 (.fn 6 (.pr (.fn 8 (.pr Q1 (.int 5))) (.int 2))))) Q61
abbrev Q63:E:=.pr (.fn 1 (.pr Q0 (.fn 6 (.pr (.fn 8 (.pr Q1 (.int 5))) (.int 1))))) Q62
abbrev Q64:E:=.pr (.fn 1 (.pr Q0 (.fn 6 (.pr (.fn 8 (.pr Q1 (.int 5))) (.int 0))))) Q63
abbrev Q65:E:=.fn 102 Q64
abbrev Q66:E:=.iff Q28 Q65
abbrev Q67:E:=.pr Q0 (.pr Q22 (.fn 9 (.pr Q0 (.int 5))))
abbrev Q68:E:=.fn 103 Q67
abbrev Q69:E:=.not Q68
abbrev Q70:E:=.cmp .lss (.int 1000) (.fn 9 (.pr Q0 (.int 5)))
abbrev Q71:E:=.not Q70
abbrev Q72:E:=.and Q4 Q71
abbrev Q73:E:=.and Q59 Q72
abbrev Q74:E:=.bool true
abbrev Q75:E:=.pr (.fn 1 (.pr Q0 (.fn 6 (.pr (.fn 8 (.pr Q1 (.int 5))) (.int 4))))) Q74
abbrev Q76:E:=.pr (.fn 1 (.pr Q0 (.fn 6 (.pr (.fn 8 (.pr Q1 (.int 5))) (.int 3))))) Q75
abbrev Q77:E:=.pr (.fn 1 (.pr Q0 (.fn 6 (.pr (.fn 8 (.pr Q1 (.int 5))) (.int 2))))) Q76
abbrev Q78:E:=.pr (.fn 1 (.pr Q0 (.fn 6 (.pr (.fn 8 (.pr Q1 (.int 5))) (.int 1))))) Q77
abbrev Q79:E:=.pr (.fn 1 (.pr Q0 (.fn 6 (.pr (.fn 8 (.pr Q1 (.int 5))) (.int 0))))) Q78
abbrev Q80:E:=.fn 102 Q79
abbrev Q81:E:=.iff Q28 Q80
abbrev Q82:E:=.pr Q0 (.pr Q74 (.fn 9 (.pr Q0 (.int 5))))
abbrev Q83:E:=.fn 103 Q82
abbrev Q84:E:=.not Q83
abbrev Q85:E:=.cmp .lss Q1 (.fn 0 Q0)
abbrev Q86:E:=.cmp .eql Q25 (.fn 1 (.pr Q0 Q1))
abbrev Q87:E:=.cmp .lss (.int 1000) (.fn 0 Q0)
abbrev Q88:E:=.not Q87
abbrev Q89:E:=.and Q4 Q88
abbrev Q90:E:=.and Q85 Q89
abbrev Q91:E:=.cmp .eql (.fn 131 (.pr Q0 (.pr Q25 Q1))) (.int 0)
abbrev Q92:E:=.cmp .lss (.int 99) Q27
abbrev Q93:E:=.var 7
abbrev Q94:E:=.var 8
abbrev Q95:E:=.pr Q93 Q94
abbrev Q96:E:=.pr Q45 Q95
abbrev Q97:E:=.pr Q28 Q96
abbrev Q98:E:=.pr Q1 Q97
abbrev Q99:E:=.pr Q27 Q98
abbrev Q100:E:=.pr Q26 Q99
abbrev Q101:E:=.pr Q25 Q100
abbrev Q102:E:=.pr Q0 Q101
abbrev Q103:E:=.fn 137 Q102
abbrev Q104:E:=.iff Q22 Q103
abbrev Q105:E:=.cmp .lss (.int 99) Q1
abbrev Q106:E:=.not (.cmp .lss Q28 (.int 0))
abbrev Q107:E:=.cmp .lss (.int 99) Q28
abbrev Q108:E:=.cmp .lss (.int 99) Q45
abbrev Q109:E:=.not (.cmp .lss Q93 (.int 0))
abbrev Q110:E:=.cmp .lss (.int 99) Q93
abbrev Q111:E:=.cmp .lss Q94 (.int 0)
abbrev Q112:E:=.not Q111
abbrev Q113:E:=.cmp .lss (.int 99) Q94
abbrev Q114:E:=.cmp .eql Q25 (.int (-1))
abbrev Q115:E:=.cmp .eql Q27 (.int 0)
abbrev Q116:E:=.cmp .eql Q1 (.int 0)
abbrev Q117:E:=.not (.cmp .lss Q0 (.int 1))
abbrev Q118:E:=.cmp .lss Q25 (.int (-1))
abbrev Q119:E:=.not Q118
abbrev Q120:E:=.cmp .lss Q25 (.int 400)
abbrev Q121:E:=.cmp .eql Q26 (.int 0)
abbrev Q122:E:=.not Q92
abbrev Q123:E:=.not Q107
abbrev Q124:E:=.not Q108
abbrev Q125:E:=.not Q110
abbrev Q126:E:=.not Q113
abbrev Q127:E:=.cmp .lss (.int 500) Q0
abbrev Q128:E:=.not Q127
abbrev Q129:E:=.and Q126 Q128
abbrev Q130:E:=.and Q125 Q129
abbrev Q131:E:=.and Q124 Q130
abbrev Q132:E:=.and Q123 Q131
abbrev Q133:E:=.and Q122 Q132
abbrev Q134:E:=.iff (.cmp .eql Q26 (.int 1)) Q103
abbrev Q135:E:=.iff Q74 Q103
abbrev Q136:E:=.and (.not Q105) Q132
abbrev Q137:E:=.and Q122 Q136
abbrev Q138:E:=.pr (.int 0) (.int 0)
abbrev Q139:E:=.fn 117 Q0
abbrev Q140:E:=.cmp .eql Q94 (.int 0)
abbrev Q141:E:=.ar .add .i64 Q94 (.int 1)
abbrev Q142:E:=.cmp .eql Q94 (.int 1)
abbrev Q143:E:=.var 16
abbrev Q144:E:=.cmp .eql Q143 (.int 0)
abbrev Q145:E:=.and Q139 Q139
abbrev Q146:E:=.and Q139 Q145
abbrev Q147:E:=.and Q140 Q146
abbrev Q148:E:=.and Q139 Q147
abbrev Q149:E:=.and Q139 Q148
abbrev Q150:E:=.pr Q0 (.pr Q94 Q143)
abbrev Q151:E:=.cmp .eql Q143 (.int 1)
abbrev Q152:E:=.cmp .eql Q143 (.int 2)
abbrev Q153:E:=.cmp .lss Q143 (.int 4)
abbrev Q154:E:=.cmp .lss Q143 (.int 0)
abbrev Q155:E:=.not Q154
abbrev Q156:E:=.and Q139 Q146
abbrev Q157:E:=.and Q139 Q156
abbrev Q158:E:=.and Q155 Q146
abbrev Q159:E:=.and Q153 Q158
abbrev Q160:E:=.var 24
abbrev Q161:E:=.var 28
abbrev Q162:E:=.cmp .lss Q160 (.fn 0 Q161)
abbrev Q163:E:=.var 25
abbrev Q164:E:=.fn 104 (.pr Q163 (.pr Q0 (.pr Q94 (.pr Q143 Q160))))
abbrev Q165:E:=.fn 109 (.pr Q161 Q150)
abbrev Q166:E:=.cmp .lss Q160 (.int 0)
abbrev Q167:E:=.not Q166
abbrev Q168:E:=.and Q155 Q140
abbrev Q169:E:=.and Q153 Q168
abbrev Q170:E:=.and Q167 Q169
abbrev Q171:E:=.iff Q22 (.fn 108 Q0)
abbrev Q172:E:=.cmp .lss (.int 200) (.fn 0 Q161)
abbrev Q173:E:=.not Q172
abbrev Q174:E:=.and Q173 Q167
abbrev Q175:E:=.and Q162 Q174
abbrev Q176:E:=.ar .add .i64 Q160 (.int 1)
abbrev Q177:E:=.and Q153 Q155
abbrev Q178:E:=.ar .add .i64 Q143 (.int 1)
abbrev Q179:E:=.and Q167 Q177
abbrev Q180:E:=.pr Q0 (.pr Q94 (.pr Q143 (.int 0)))
abbrev Q181:E:=.pr (.var 17) Q180
abbrev Q182:E:=.fn 104 Q181
abbrev Q183:E:=.and (.not (.cmp .lss (.int 4) Q143)) Q145
abbrev Q184:E:=.and Q182 Q183
abbrev Q185:E:=.and Q139 Q184
abbrev Q186:E:=.pr (.var 17) (.pr Q0 (.pr Q141 Q138))
abbrev Q187:E:=.fn 104 Q186
abbrev Q188:E:=.and Q162 Q167
abbrev Q189:E:=.cmp .lss (.fn 7 (.pr (.int 2) Q141)) (.fn 7 (.pr (.int 2) Q94))
abbrev Q190:E:=.var 32
abbrev Q191:E:=.cmp .lss Q190 (.fn 9 (.pr (.fn 1 (.pr Q0 (.int 29))) (.int 5)))
abbrev Q192:E:=.cmp .lss (.fn 1 (.pr (.fn 1 (.pr Q0 (.int 29))) (.fn 6 (.pr (.fn 8 (.pr Q190 (.int 5))) (.int 3))))) (.int 0)
abbrev Q193:E:=.var 33
abbrev Q194:E:=.var 34
abbrev Q195:E:=.pr Q0 Q190
abbrev Q196:E:=.pr Q194 Q195
abbrev Q197:E:=.fn 106 Q196
abbrev Q198:E:=.pr Q193 Q195
abbrev Q199:E:=.fn 105 Q198
abbrev Q200:E:=.cmp .lss Q190 (.int 0)
abbrev Q201:E:=.not Q200
abbrev Q202:E:=.and Q199 Q201
abbrev Q203:E:=.and Q197 Q202
abbrev Q204:E:=.and Q139 (.and Q191 Q201)
abbrev Q205:E:=.ar .add .i64 Q190 (.int 1)
abbrev Q206:E:=.not (.fn 33 (.pr Q163 (.fn 1 (.pr Q161 Q160))))
abbrev Q207:E:=.pr (.fn 34 (.pr Q163 (.pr (.fn 1 (.pr Q161 Q160)) Q94))) (.pr Q0 (.pr Q94 (.pr Q143 Q176)))
abbrev Q208:E:=.fn 104 Q207
abbrev Q209:E:=.cmp .lss (.fn 7 (.pr (.int 2) Q141)) (.int 0)
abbrev Q210:E:=.not Q209
abbrev Q211:E:=.cmp .lss (.fn 9 (.pr (.fn 1 (.pr Q0 (.int 29))) (.int 5))) Q190
abbrev Q212:E:=.not Q211
abbrev Q213:E:=.and Q212 Q156
abbrev Q214:E:=.pr Q0 (.fn 9 (.pr (.fn 1 (.pr Q0 (.int 29))) (.int 5)))
abbrev Q215:E:=.not (.fn 33 (.pr Q193 (.fn 1 (.pr (.fn 1 (.pr Q0 (.int 29))) (.fn 6 (.pr (.fn 8 (.pr Q190 (.int 5))) (.int 1)))))))
abbrev Q216:E:=.and Q139 Q203
abbrev Q217:E:=.and Q215 Q216
abbrev Q218:E:=.and Q192 Q217
abbrev Q219:E:=.and Q191 Q218
abbrev Q220:E:=.and (.not Q192) Q216
abbrev Q221:E:=.and Q191 Q220
abbrev Q222:E:=.var 40
abbrev Q223:E:=.cmp .lss Q222 (.fn 9 (.pr (.fn 1 (.pr Q0 (.int 0))) (.int 12)))
abbrev Q224:E:=.cmp .lss (.int 0) Q222
abbrev Q225:E:=.and Q223 Q224
abbrev Q226:E:=.ar .sub .i64 Q222 (.int 1)
abbrev Q227:E:=.fn 107 (.pr Q0 Q222)
abbrev Q228:E:=.var 41
abbrev Q229:E:=.fn 105 (.pr Q228 Q214)
abbrev Q230:E:=.not Q224
abbrev Q231:E:=.cmp .lss Q222 (.int 0)
abbrev Q232:E:=.not Q231
abbrev Q233:E:=.and Q230 Q232
abbrev Q234:E:=.ar .add .i64 Q222 (.int 1)
abbrev Q235:E:=.var 43
abbrev Q236:E:=.iff Q235 (.fn 137 (.pr (.fn 1 (.pr (.fn 1 (.pr Q0 (.int 0))) (.fn 6 (.pr (.fn 8 (.pr Q222 (.int 12))) (.int 0))))) (.pr (.fn 1 (.pr (.fn 1 (.pr Q0 (.int 0))) (.fn 6 (.pr (.fn 8 (.pr Q222 (.int 12))) (.int 1))))) (.pr (.fn 1 (.pr (.fn 1 (.pr Q0 (.int 0))) (.fn 6 (.pr (.fn 8 (.pr Q222 (.int 12))) (.int 2))))) (.pr (.fn 1 (.pr (.fn 1 (.pr Q0 (.int 0))) (.fn 6 (.pr (.fn 8 (.pr Q222 (.int 12))) (.int 3))))) (.pr (.fn 1 (.pr (.fn 1 (.pr Q0 (.int 0))) (.fn 6 (.pr (.fn 8 (.pr Q222 (.int 12))) (.int 4))))) (.pr (.fn 1 (.pr (.fn 1 (.pr Q0 (.int 0))) (.fn 6 (.pr (.fn 8 (.pr Q222 (.int 12))) (.int 5))))) (.pr (.fn 1 (.pr (.fn 1 (.pr Q0 (.int 0))) (.fn 6 (.pr (.fn 8 (.pr Q222 (.int 12))) (.int 6))))) (.pr (.fn 1 (.pr (.fn 1 (.pr Q0 (.int 0))) (.fn 6 (.pr (.fn 8 (.pr Q222 (.int 12))) (.int 7))))) (.fn 1 (.pr (.fn 1 (.pr Q0 (.int 0))) (.fn 6 (.pr (.fn 8 (.pr Q222 (.int 12))) (.int 8))))))))))))))
abbrev Q237:E:=.var 42
abbrev Q238:E:=.cmp .eql (.fn 32 (.pr Q237 (.pr (.fn 1 (.pr (.fn 1 (.pr Q0 (.int 0))) (.fn 6 (.pr (.fn 8 (.pr Q222 (.int 12))) (.int 0))))) (.int 0)))) (.fn 1 (.pr (.fn 1 (.pr Q0 (.int 0))) (.fn 6 (.pr (.fn 8 (.pr Q222 (.int 12))) (.int 1)))))
abbrev Q239:E:=.and Q227 (.and (.fn 106 (.pr Q237 Q214)) (.and Q229 Q232))
abbrev Q240:E:=.cmp .eql (.fn 32 (.pr Q228 (.pr (.fn 1 (.pr (.fn 1 (.pr Q0 (.int 0))) (.fn 6 (.pr (.fn 8 (.pr Q222 (.int 12))) (.int 0))))) (.int 0)))) (.fn 1 (.pr (.fn 1 (.pr Q0 (.int 0))) (.fn 6 (.pr (.fn 8 (.pr Q222 (.int 12))) (.int 2)))))
abbrev Q241:E:=.not (.fn 33 (.pr Q228 (.fn 1 (.pr (.fn 1 (.pr Q0 (.int 0))) (.fn 6 (.pr (.fn 8 (.pr Q222 (.int 12))) (.int 0)))))))
abbrev Q242:E:=.cmp .lss (.fn 1 (.pr (.fn 1 (.pr Q0 (.int 0))) (.fn 6 (.pr (.fn 8 (.pr Q226 (.int 12))) (.int 0))))) (.fn 1 (.pr (.fn 1 (.pr Q0 (.int 0))) (.fn 6 (.pr (.fn 8 (.pr Q222 (.int 12))) (.int 0)))))
abbrev Q243:E:=.and Q227 (.and (.fn 106 (.pr Q237 Q214)) (.and Q229 (.and Q232 Q139)))
abbrev Q244:E:=.and Q223 Q233
abbrev Q245:E:=.cmp .lss (.fn 9 (.pr (.fn 1 (.pr Q0 (.int 0))) (.int 12))) Q234
abbrev Q246:E:=.not Q245
abbrev Q247:E:=.not (.fn 33 (.pr Q237 (.fn 1 (.pr (.fn 1 (.pr Q0 (.int 0))) (.fn 6 (.pr (.fn 8 (.pr Q222 (.int 12))) (.int 0)))))))
abbrev Q248:E:=.fn 107 (.pr Q0 Q234)
abbrev Q249:E:=.cmp .lss (.fn 7 (.pr (.fn 9 (.pr (.fn 1 (.pr Q0 (.int 0))) (.int 12))) Q234)) (.fn 7 (.pr (.fn 9 (.pr (.fn 1 (.pr Q0 (.int 0))) (.int 12))) Q222))
abbrev Q250:E:=.cmp .lss (.fn 7 (.pr (.fn 9 (.pr (.fn 1 (.pr Q0 (.int 0))) (.int 12))) Q234)) (.int 0)
abbrev Q251:E:=.not Q250
theorem own:ownKnob Try.prog.godebug=none:=by kernel_rfl
theorem laidOut:laidOutB Try.prog=true:=by kernel_rfl
theorem good:progOk Try.prog=true:=by kernel_rfl

theorem bulkOk {H:Type}:BulkOk (bulkD (H:=H)) bulkDs:=bulkD_ok
theorem ty_board {us:List U} (h:us.length=38) (t:U.typs us kBu []=true):(U.typs us kBu [] && us.length == 38)=true:=by rw [t,h]; rfl

abbrev Tr (f:E):Prop:=∀ ρ:Env,E.B ρ f=true
theorem ac {e:E} {l:List E} (h:Tr e) (hl:∀ e∈l,Tr e):∀ x∈e::l,Tr x:=all_cons h hl
theorem ii1 {a0 d:E} (h:∀ ρ:Env,E.B ρ a0=true→E.B ρ d=true):Tr (.imp a0 d):=fun ρ=>by
 rw [sm_B_imp]
 rintro p0
 exact h ρ p0
theorem ii2 {a0 a1 d:E} (h:∀ ρ:Env,E.B ρ a0=true→E.B ρ a1=true→E.B ρ d=true):Tr (.imp (.and a0 a1) d):=fun ρ=>by
 rw [sm_B_imp]
 simp only [sm_B_and]
 rintro ⟨p0,p1⟩
 exact h ρ p0 p1
theorem ii3 {a0 a1 a2 d:E} (h:∀ ρ:Env,E.B ρ a0=true→E.B ρ a1=true→E.B ρ a2=true→E.B ρ d=true):Tr (.imp (.and a0 (.and a1 a2)) d):=fun ρ=>by
 rw [sm_B_imp]
 simp only [sm_B_and]
 rintro ⟨p0,p1,p2⟩
 exact h ρ p0 p1 p2
theorem ii4 {a0 a1 a2 a3 d:E} (h:∀ ρ:Env,E.B ρ a0=true→E.B ρ a1=true→E.B ρ a2=true→E.B ρ a3=true→E.B ρ d=true):Tr (.imp (.and a0 (.and a1 (.and a2 a3))) d):=fun ρ=>by
 rw [sm_B_imp]
 simp only [sm_B_and]
 rintro ⟨p0,p1,p2,p3⟩
 exact h ρ p0 p1 p2 p3
theorem ii5 {a0 a1 a2 a3 a4 d:E} (h:∀ ρ:Env,E.B ρ a0=true→E.B ρ a1=true→E.B ρ a2=true→E.B ρ a3=true→E.B ρ a4=true→E.B ρ d=true):Tr (.imp (.and a0 (.and a1 (.and a2 (.and a3 a4)))) d):=fun ρ=>by
 rw [sm_B_imp]
 simp only [sm_B_and]
 rintro ⟨p0,p1,p2,p3,p4⟩
 exact h ρ p0 p1 p2 p3 p4
theorem ii6 {a0 a1 a2 a3 a4 a5 d:E} (h:∀ ρ:Env,E.B ρ a0=true→E.B ρ a1=true→E.B ρ a2=true→E.B ρ a3=true→E.B ρ a4=true→E.B ρ a5=true→E.B ρ d=true):Tr (.imp (.and a0 (.and a1 (.and a2 (.and a3 (.and a4 a5))))) d):=fun ρ=>by
 rw [sm_B_imp]
 simp only [sm_B_and]
 rintro ⟨p0,p1,p2,p3,p4,p5⟩
 exact h ρ p0 p1 p2 p3 p4 p5
theorem ii7 {a0 a1 a2 a3 a4 a5 a6 d:E} (h:∀ ρ:Env,E.B ρ a0=true→E.B ρ a1=true→E.B ρ a2=true→E.B ρ a3=true→E.B ρ a4=true→E.B ρ a5=true→E.B ρ a6=true→E.B ρ d=true):Tr (.imp (.and a0 (.and a1 (.and a2 (.and a3 (.and a4 (.and a5 a6)))))) d):=fun ρ=>by
 rw [sm_B_imp]
 simp only [sm_B_and]
 rintro ⟨p0,p1,p2,p3,p4,p5,p6⟩
 exact h ρ p0 p1 p2 p3 p4 p5 p6
theorem ii8 {a0 a1 a2 a3 a4 a5 a6 a7 d:E} (h:∀ ρ:Env,E.B ρ a0=true→E.B ρ a1=true→E.B ρ a2=true→E.B ρ a3=true→E.B ρ a4=true→E.B ρ a5=true→E.B ρ a6=true→E.B ρ a7=true→E.B ρ d=true):Tr (.imp (.and a0 (.and a1 (.and a2 (.and a3 (.and a4 (.and a5 (.and a6 a7))))))) d):=fun ρ=>by
 rw [sm_B_imp]
 simp only [sm_B_and]
 rintro ⟨p0,p1,p2,p3,p4,p5,p6,p7⟩
 exact h ρ p0 p1 p2 p3 p4 p5 p6 p7
theorem ii9 {a0 a1 a2 a3 a4 a5 a6 a7 a8 d:E} (h:∀ ρ:Env,E.B ρ a0=true→E.B ρ a1=true→E.B ρ a2=true→E.B ρ a3=true→E.B ρ a4=true→E.B ρ a5=true→E.B ρ a6=true→E.B ρ a7=true→E.B ρ a8=true→E.B ρ d=true):Tr (.imp (.and a0 (.and a1 (.and a2 (.and a3 (.and a4 (.and a5 (.and a6 (.and a7 a8)))))))) d):=fun ρ=>by
 rw [sm_B_imp]
 simp only [sm_B_and]
 rintro ⟨p0,p1,p2,p3,p4,p5,p6,p7,p8⟩
 exact h ρ p0 p1 p2 p3 p4 p5 p6 p7 p8
theorem ii10 {a0 a1 a2 a3 a4 a5 a6 a7 a8 a9 d:E} (h:∀ ρ:Env,E.B ρ a0=true→E.B ρ a1=true→E.B ρ a2=true→E.B ρ a3=true→E.B ρ a4=true→E.B ρ a5=true→E.B ρ a6=true→E.B ρ a7=true→E.B ρ a8=true→E.B ρ a9=true→E.B ρ d=true):Tr (.imp (.and a0 (.and a1 (.and a2 (.and a3 (.and a4 (.and a5 (.and a6 (.and a7 (.and a8 a9))))))))) d):=fun ρ=>by
 rw [sm_B_imp]
 simp only [sm_B_and]
 rintro ⟨p0,p1,p2,p3,p4,p5,p6,p7,p8,p9⟩
 exact h ρ p0 p1 p2 p3 p4 p5 p6 p7 p8 p9
theorem ii11 {a0 a1 a2 a3 a4 a5 a6 a7 a8 a9 a10 d:E} (h:∀ ρ:Env,E.B ρ a0=true→E.B ρ a1=true→E.B ρ a2=true→E.B ρ a3=true→E.B ρ a4=true→E.B ρ a5=true→E.B ρ a6=true→E.B ρ a7=true→E.B ρ a8=true→E.B ρ a9=true→E.B ρ a10=true→E.B ρ d=true):Tr (.imp (.and a0 (.and a1 (.and a2 (.and a3 (.and a4 (.and a5 (.and a6 (.and a7 (.and a8 (.and a9 a10)))))))))) d):=fun ρ=>by
 rw [sm_B_imp]
 simp only [sm_B_and]
 rintro ⟨p0,p1,p2,p3,p4,p5,p6,p7,p8,p9,p10⟩
 exact h ρ p0 p1 p2 p3 p4 p5 p6 p7 p8 p9 p10
theorem ii12 {a0 a1 a2 a3 a4 a5 a6 a7 a8 a9 a10 a11 d:E} (h:∀ ρ:Env,E.B ρ a0=true→E.B ρ a1=true→E.B ρ a2=true→E.B ρ a3=true→E.B ρ a4=true→E.B ρ a5=true→E.B ρ a6=true→E.B ρ a7=true→E.B ρ a8=true→E.B ρ a9=true→E.B ρ a10=true→E.B ρ a11=true→E.B ρ d=true):Tr (.imp (.and a0 (.and a1 (.and a2 (.and a3 (.and a4 (.and a5 (.and a6 (.and a7 (.and a8 (.and a9 (.and a10 a11))))))))))) d):=fun ρ=>by
 rw [sm_B_imp]
 simp only [sm_B_and]
 rintro ⟨p0,p1,p2,p3,p4,p5,p6,p7,p8,p9,p10,p11⟩
 exact h ρ p0 p1 p2 p3 p4 p5 p6 p7 p8 p9 p10 p11
theorem ii13 {a0 a1 a2 a3 a4 a5 a6 a7 a8 a9 a10 a11 a12 d:E} (h:∀ ρ:Env,E.B ρ a0=true→E.B ρ a1=true→E.B ρ a2=true→E.B ρ a3=true→E.B ρ a4=true→E.B ρ a5=true→E.B ρ a6=true→E.B ρ a7=true→E.B ρ a8=true→E.B ρ a9=true→E.B ρ a10=true→E.B ρ a11=true→E.B ρ a12=true→E.B ρ d=true):Tr (.imp (.and a0 (.and a1 (.and a2 (.and a3 (.and a4 (.and a5 (.and a6 (.and a7 (.and a8 (.and a9 (.and a10 (.and a11 a12)))))))))))) d):=fun ρ=>by
 rw [sm_B_imp]
 simp only [sm_B_and]
 rintro ⟨p0,p1,p2,p3,p4,p5,p6,p7,p8,p9,p10,p11,p12⟩
 exact h ρ p0 p1 p2 p3 p4 p5 p6 p7 p8 p9 p10 p11 p12
theorem ii14 {a0 a1 a2 a3 a4 a5 a6 a7 a8 a9 a10 a11 a12 a13 d:E} (h:∀ ρ:Env,E.B ρ a0=true→E.B ρ a1=true→E.B ρ a2=true→E.B ρ a3=true→E.B ρ a4=true→E.B ρ a5=true→E.B ρ a6=true→E.B ρ a7=true→E.B ρ a8=true→E.B ρ a9=true→E.B ρ a10=true→E.B ρ a11=true→E.B ρ a12=true→E.B ρ a13=true→E.B ρ d=true):Tr (.imp (.and a0 (.and a1 (.and a2 (.and a3 (.and a4 (.and a5 (.and a6 (.and a7 (.and a8 (.and a9 (.and a10 (.and a11 (.and a12 a13))))))))))))) d):=fun ρ=>by
 rw [sm_B_imp]
 simp only [sm_B_and]
 rintro ⟨p0,p1,p2,p3,p4,p5,p6,p7,p8,p9,p10,p11,p12,p13⟩
 exact h ρ p0 p1 p2 p3 p4 p5 p6 p7 p8 p9 p10 p11 p12 p13
theorem ii15 {a0 a1 a2 a3 a4 a5 a6 a7 a8 a9 a10 a11 a12 a13 a14 d:E} (h:∀ ρ:Env,E.B ρ a0=true→E.B ρ a1=true→E.B ρ a2=true→E.B ρ a3=true→E.B ρ a4=true→E.B ρ a5=true→E.B ρ a6=true→E.B ρ a7=true→E.B ρ a8=true→E.B ρ a9=true→E.B ρ a10=true→E.B ρ a11=true→E.B ρ a12=true→E.B ρ a13=true→E.B ρ a14=true→E.B ρ d=true):Tr (.imp (.and a0 (.and a1 (.and a2 (.and a3 (.and a4 (.and a5 (.and a6 (.and a7 (.and a8 (.and a9 (.and a10 (.and a11 (.and a12 (.and a13 a14)))))))))))))) d):=fun ρ=>by
 rw [sm_B_imp]
 simp only [sm_B_and]
 rintro ⟨p0,p1,p2,p3,p4,p5,p6,p7,p8,p9,p10,p11,p12,p13,p14⟩
 exact h ρ p0 p1 p2 p3 p4 p5 p6 p7 p8 p9 p10 p11 p12 p13 p14
theorem ii16 {a0 a1 a2 a3 a4 a5 a6 a7 a8 a9 a10 a11 a12 a13 a14 a15 d:E} (h:∀ ρ:Env,E.B ρ a0=true→E.B ρ a1=true→E.B ρ a2=true→E.B ρ a3=true→E.B ρ a4=true→E.B ρ a5=true→E.B ρ a6=true→E.B ρ a7=true→E.B ρ a8=true→E.B ρ a9=true→E.B ρ a10=true→E.B ρ a11=true→E.B ρ a12=true→E.B ρ a13=true→E.B ρ a14=true→E.B ρ a15=true→E.B ρ d=true):Tr (.imp (.and a0 (.and a1 (.and a2 (.and a3 (.and a4 (.and a5 (.and a6 (.and a7 (.and a8 (.and a9 (.and a10 (.and a11 (.and a12 (.and a13 (.and a14 a15))))))))))))))) d):=fun ρ=>by
 rw [sm_B_imp]
 simp only [sm_B_and]
 rintro ⟨p0,p1,p2,p3,p4,p5,p6,p7,p8,p9,p10,p11,p12,p13,p14,p15⟩
 exact h ρ p0 p1 p2 p3 p4 p5 p6 p7 p8 p9 p10 p11 p12 p13 p14 p15
theorem ii17 {a0 a1 a2 a3 a4 a5 a6 a7 a8 a9 a10 a11 a12 a13 a14 a15 a16 d:E} (h:∀ ρ:Env,E.B ρ a0=true→E.B ρ a1=true→E.B ρ a2=true→E.B ρ a3=true→E.B ρ a4=true→E.B ρ a5=true→E.B ρ a6=true→E.B ρ a7=true→E.B ρ a8=true→E.B ρ a9=true→E.B ρ a10=true→E.B ρ a11=true→E.B ρ a12=true→E.B ρ a13=true→E.B ρ a14=true→E.B ρ a15=true→E.B ρ a16=true→E.B ρ d=true):Tr (.imp (.and a0 (.and a1 (.and a2 (.and a3 (.and a4 (.and a5 (.and a6 (.and a7 (.and a8 (.and a9 (.and a10 (.and a11 (.and a12 (.and a13 (.and a14 (.and a15 a16)))))))))))))))) d):=fun ρ=>by
 rw [sm_B_imp]
 simp only [sm_B_and]
 rintro ⟨p0,p1,p2,p3,p4,p5,p6,p7,p8,p9,p10,p11,p12,p13,p14,p15,p16⟩
 exact h ρ p0 p1 p2 p3 p4 p5 p6 p7 p8 p9 p10 p11 p12 p13 p14 p15 p16
theorem ii18 {a0 a1 a2 a3 a4 a5 a6 a7 a8 a9 a10 a11 a12 a13 a14 a15 a16 a17 d:E} (h:∀ ρ:Env,E.B ρ a0=true→E.B ρ a1=true→E.B ρ a2=true→E.B ρ a3=true→E.B ρ a4=true→E.B ρ a5=true→E.B ρ a6=true→E.B ρ a7=true→E.B ρ a8=true→E.B ρ a9=true→E.B ρ a10=true→E.B ρ a11=true→E.B ρ a12=true→E.B ρ a13=true→E.B ρ a14=true→E.B ρ a15=true→E.B ρ a16=true→E.B ρ a17=true→E.B ρ d=true):Tr (.imp (.and a0 (.and a1 (.and a2 (.and a3 (.and a4 (.and a5 (.and a6 (.and a7 (.and a8 (.and a9 (.and a10 (.and a11 (.and a12 (.and a13 (.and a14 (.and a15 (.and a16 a17))))))))))))))))) d):=fun ρ=>by
 rw [sm_B_imp]
 simp only [sm_B_and]
 rintro ⟨p0,p1,p2,p3,p4,p5,p6,p7,p8,p9,p10,p11,p12,p13,p14,p15,p16,p17⟩
 exact h ρ p0 p1 p2 p3 p4 p5 p6 p7 p8 p9 p10 p11 p12 p13 p14 p15 p16 p17
theorem ii19 {a0 a1 a2 a3 a4 a5 a6 a7 a8 a9 a10 a11 a12 a13 a14 a15 a16 a17 a18 d:E} (h:∀ ρ:Env,E.B ρ a0=true→E.B ρ a1=true→E.B ρ a2=true→E.B ρ a3=true→E.B ρ a4=true→E.B ρ a5=true→E.B ρ a6=true→E.B ρ a7=true→E.B ρ a8=true→E.B ρ a9=true→E.B ρ a10=true→E.B ρ a11=true→E.B ρ a12=true→E.B ρ a13=true→E.B ρ a14=true→E.B ρ a15=true→E.B ρ a16=true→E.B ρ a17=true→E.B ρ a18=true→E.B ρ d=true):Tr (.imp (.and a0 (.and a1 (.and a2 (.and a3 (.and a4 (.and a5 (.and a6 (.and a7 (.and a8 (.and a9 (.and a10 (.and a11 (.and a12 (.and a13 (.and a14 (.and a15 (.and a16 (.and a17 a18)))))))))))))))))) d):=fun ρ=>by
 rw [sm_B_imp]
 simp only [sm_B_and]
 rintro ⟨p0,p1,p2,p3,p4,p5,p6,p7,p8,p9,p10,p11,p12,p13,p14,p15,p16,p17,p18⟩
 exact h ρ p0 p1 p2 p3 p4 p5 p6 p7 p8 p9 p10 p11 p12 p13 p14 p15 p16 p17 p18
theorem ii20 {a0 a1 a2 a3 a4 a5 a6 a7 a8 a9 a10 a11 a12 a13 a14 a15 a16 a17 a18 a19 d:E} (h:∀ ρ:Env,E.B ρ a0=true→E.B ρ a1=true→E.B ρ a2=true→E.B ρ a3=true→E.B ρ a4=true→E.B ρ a5=true→E.B ρ a6=true→E.B ρ a7=true→E.B ρ a8=true→E.B ρ a9=true→E.B ρ a10=true→E.B ρ a11=true→E.B ρ a12=true→E.B ρ a13=true→E.B ρ a14=true→E.B ρ a15=true→E.B ρ a16=true→E.B ρ a17=true→E.B ρ a18=true→E.B ρ a19=true→E.B ρ d=true):Tr (.imp (.and a0 (.and a1 (.and a2 (.and a3 (.and a4 (.and a5 (.and a6 (.and a7 (.and a8 (.and a9 (.and a10 (.and a11 (.and a12 (.and a13 (.and a14 (.and a15 (.and a16 (.and a17 (.and a18 a19))))))))))))))))))) d):=fun ρ=>by
 rw [sm_B_imp]
 simp only [sm_B_and]
 rintro ⟨p0,p1,p2,p3,p4,p5,p6,p7,p8,p9,p10,p11,p12,p13,p14,p15,p16,p17,p18,p19⟩
 exact h ρ p0 p1 p2 p3 p4 p5 p6 p7 p8 p9 p10 p11 p12 p13 p14 p15 p16 p17 p18 p19
theorem ii21 {a0 a1 a2 a3 a4 a5 a6 a7 a8 a9 a10 a11 a12 a13 a14 a15 a16 a17 a18 a19 a20 d:E} (h:∀ ρ:Env,E.B ρ a0=true→E.B ρ a1=true→E.B ρ a2=true→E.B ρ a3=true→E.B ρ a4=true→E.B ρ a5=true→E.B ρ a6=true→E.B ρ a7=true→E.B ρ a8=true→E.B ρ a9=true→E.B ρ a10=true→E.B ρ a11=true→E.B ρ a12=true→E.B ρ a13=true→E.B ρ a14=true→E.B ρ a15=true→E.B ρ a16=true→E.B ρ a17=true→E.B ρ a18=true→E.B ρ a19=true→E.B ρ a20=true→E.B ρ d=true):Tr (.imp (.and a0 (.and a1 (.and a2 (.and a3 (.and a4 (.and a5 (.and a6 (.and a7 (.and a8 (.and a9 (.and a10 (.and a11 (.and a12 (.and a13 (.and a14 (.and a15 (.and a16 (.and a17 (.and a18 (.and a19 a20)))))))))))))))))))) d):=fun ρ=>by
 rw [sm_B_imp]
 simp only [sm_B_and]
 rintro ⟨p0,p1,p2,p3,p4,p5,p6,p7,p8,p9,p10,p11,p12,p13,p14,p15,p16,p17,p18,p19,p20⟩
 exact h ρ p0 p1 p2 p3 p4 p5 p6 p7 p8 p9 p10 p11 p12 p13 p14 p15 p16 p17 p18 p19 p20
theorem ii22 {a0 a1 a2 a3 a4 a5 a6 a7 a8 a9 a10 a11 a12 a13 a14 a15 a16 a17 a18 a19 a20 a21 d:E} (h:∀ ρ:Env,E.B ρ a0=true→E.B ρ a1=true→E.B ρ a2=true→E.B ρ a3=true→E.B ρ a4=true→E.B ρ a5=true→E.B ρ a6=true→E.B ρ a7=true→E.B ρ a8=true→E.B ρ a9=true→E.B ρ a10=true→E.B ρ a11=true→E.B ρ a12=true→E.B ρ a13=true→E.B ρ a14=true→E.B ρ a15=true→E.B ρ a16=true→E.B ρ a17=true→E.B ρ a18=true→E.B ρ a19=true→E.B ρ a20=true→E.B ρ a21=true→E.B ρ d=true):Tr (.imp (.and a0 (.and a1 (.and a2 (.and a3 (.and a4 (.and a5 (.and a6 (.and a7 (.and a8 (.and a9 (.and a10 (.and a11 (.and a12 (.and a13 (.and a14 (.and a15 (.and a16 (.and a17 (.and a18 (.and a19 (.and a20 a21))))))))))))))))))))) d):=fun ρ=>by
 rw [sm_B_imp]
 simp only [sm_B_and]
 rintro ⟨p0,p1,p2,p3,p4,p5,p6,p7,p8,p9,p10,p11,p12,p13,p14,p15,p16,p17,p18,p19,p20,p21⟩
 exact h ρ p0 p1 p2 p3 p4 p5 p6 p7 p8 p9 p10 p11 p12 p13 p14 p15 p16 p17 p18 p19 p20 p21
theorem ii23 {a0 a1 a2 a3 a4 a5 a6 a7 a8 a9 a10 a11 a12 a13 a14 a15 a16 a17 a18 a19 a20 a21 a22 d:E} (h:∀ ρ:Env,E.B ρ a0=true→E.B ρ a1=true→E.B ρ a2=true→E.B ρ a3=true→E.B ρ a4=true→E.B ρ a5=true→E.B ρ a6=true→E.B ρ a7=true→E.B ρ a8=true→E.B ρ a9=true→E.B ρ a10=true→E.B ρ a11=true→E.B ρ a12=true→E.B ρ a13=true→E.B ρ a14=true→E.B ρ a15=true→E.B ρ a16=true→E.B ρ a17=true→E.B ρ a18=true→E.B ρ a19=true→E.B ρ a20=true→E.B ρ a21=true→E.B ρ a22=true→E.B ρ d=true):Tr (.imp (.and a0 (.and a1 (.and a2 (.and a3 (.and a4 (.and a5 (.and a6 (.and a7 (.and a8 (.and a9 (.and a10 (.and a11 (.and a12 (.and a13 (.and a14 (.and a15 (.and a16 (.and a17 (.and a18 (.and a19 (.and a20 (.and a21 a22)))))))))))))))))))))) d):=fun ρ=>by
 rw [sm_B_imp]
 simp only [sm_B_and]
 rintro ⟨p0,p1,p2,p3,p4,p5,p6,p7,p8,p9,p10,p11,p12,p13,p14,p15,p16,p17,p18,p19,p20,p21,p22⟩
 exact h ρ p0 p1 p2 p3 p4 p5 p6 p7 p8 p9 p10 p11 p12 p13 p14 p15 p16 p17 p18 p19 p20 p21 p22
theorem ii24 {a0 a1 a2 a3 a4 a5 a6 a7 a8 a9 a10 a11 a12 a13 a14 a15 a16 a17 a18 a19 a20 a21 a22 a23 d:E} (h:∀ ρ:Env,E.B ρ a0=true→E.B ρ a1=true→E.B ρ a2=true→E.B ρ a3=true→E.B ρ a4=true→E.B ρ a5=true→E.B ρ a6=true→E.B ρ a7=true→E.B ρ a8=true→E.B ρ a9=true→E.B ρ a10=true→E.B ρ a11=true→E.B ρ a12=true→E.B ρ a13=true→E.B ρ a14=true→E.B ρ a15=true→E.B ρ a16=true→E.B ρ a17=true→E.B ρ a18=true→E.B ρ a19=true→E.B ρ a20=true→E.B ρ a21=true→E.B ρ a22=true→E.B ρ a23=true→E.B ρ d=true):Tr (.imp (.and a0 (.and a1 (.and a2 (.and a3 (.and a4 (.and a5 (.and a6 (.and a7 (.and a8 (.and a9 (.and a10 (.and a11 (.and a12 (.and a13 (.and a14 (.and a15 (.and a16 (.and a17 (.and a18 (.and a19 (.and a20 (.and a21 (.and a22 a23))))))))))))))))))))))) d):=fun ρ=>by
 rw [sm_B_imp]
 simp only [sm_B_and]
 rintro ⟨p0,p1,p2,p3,p4,p5,p6,p7,p8,p9,p10,p11,p12,p13,p14,p15,p16,p17,p18,p19,p20,p21,p22,p23⟩
 exact h ρ p0 p1 p2 p3 p4 p5 p6 p7 p8 p9 p10 p11 p12 p13 p14 p15 p16 p17 p18 p19 p20 p21 p22 p23
theorem ii25 {a0 a1 a2 a3 a4 a5 a6 a7 a8 a9 a10 a11 a12 a13 a14 a15 a16 a17 a18 a19 a20 a21 a22 a23 a24 d:E} (h:∀ ρ:Env,E.B ρ a0=true→E.B ρ a1=true→E.B ρ a2=true→E.B ρ a3=true→E.B ρ a4=true→E.B ρ a5=true→E.B ρ a6=true→E.B ρ a7=true→E.B ρ a8=true→E.B ρ a9=true→E.B ρ a10=true→E.B ρ a11=true→E.B ρ a12=true→E.B ρ a13=true→E.B ρ a14=true→E.B ρ a15=true→E.B ρ a16=true→E.B ρ a17=true→E.B ρ a18=true→E.B ρ a19=true→E.B ρ a20=true→E.B ρ a21=true→E.B ρ a22=true→E.B ρ a23=true→E.B ρ a24=true→E.B ρ d=true):Tr (.imp (.and a0 (.and a1 (.and a2 (.and a3 (.and a4 (.and a5 (.and a6 (.and a7 (.and a8 (.and a9 (.and a10 (.and a11 (.and a12 (.and a13 (.and a14 (.and a15 (.and a16 (.and a17 (.and a18 (.and a19 (.and a20 (.and a21 (.and a22 (.and a23 a24)))))))))))))))))))))))) d):=fun ρ=>by
 rw [sm_B_imp]
 simp only [sm_B_and]
 rintro ⟨p0,p1,p2,p3,p4,p5,p6,p7,p8,p9,p10,p11,p12,p13,p14,p15,p16,p17,p18,p19,p20,p21,p22,p23,p24⟩
 exact h ρ p0 p1 p2 p3 p4 p5 p6 p7 p8 p9 p10 p11 p12 p13 p14 p15 p16 p17 p18 p19 p20 p21 p22 p23 p24
theorem ii26 {a0 a1 a2 a3 a4 a5 a6 a7 a8 a9 a10 a11 a12 a13 a14 a15 a16 a17 a18 a19 a20 a21 a22 a23 a24 a25 d:E} (h:∀ ρ:Env,E.B ρ a0=true→E.B ρ a1=true→E.B ρ a2=true→E.B ρ a3=true→E.B ρ a4=true→E.B ρ a5=true→E.B ρ a6=true→E.B ρ a7=true→E.B ρ a8=true→E.B ρ a9=true→E.B ρ a10=true→E.B ρ a11=true→E.B ρ a12=true→E.B ρ a13=true→E.B ρ a14=true→E.B ρ a15=true→E.B ρ a16=true→E.B ρ a17=true→E.B ρ a18=true→E.B ρ a19=true→E.B ρ a20=true→E.B ρ a21=true→E.B ρ a22=true→E.B ρ a23=true→E.B ρ a24=true→E.B ρ a25=true→E.B ρ d=true):Tr (.imp (.and a0 (.and a1 (.and a2 (.and a3 (.and a4 (.and a5 (.and a6 (.and a7 (.and a8 (.and a9 (.and a10 (.and a11 (.and a12 (.and a13 (.and a14 (.and a15 (.and a16 (.and a17 (.and a18 (.and a19 (.and a20 (.and a21 (.and a22 (.and a23 (.and a24 a25))))))))))))))))))))))))) d):=fun ρ=>by
 rw [sm_B_imp]
 simp only [sm_B_and]
 rintro ⟨p0,p1,p2,p3,p4,p5,p6,p7,p8,p9,p10,p11,p12,p13,p14,p15,p16,p17,p18,p19,p20,p21,p22,p23,p24,p25⟩
 exact h ρ p0 p1 p2 p3 p4 p5 p6 p7 p8 p9 p10 p11 p12 p13 p14 p15 p16 p17 p18 p19 p20 p21 p22 p23 p24 p25
theorem ii27 {a0 a1 a2 a3 a4 a5 a6 a7 a8 a9 a10 a11 a12 a13 a14 a15 a16 a17 a18 a19 a20 a21 a22 a23 a24 a25 a26 d:E} (h:∀ ρ:Env,E.B ρ a0=true→E.B ρ a1=true→E.B ρ a2=true→E.B ρ a3=true→E.B ρ a4=true→E.B ρ a5=true→E.B ρ a6=true→E.B ρ a7=true→E.B ρ a8=true→E.B ρ a9=true→E.B ρ a10=true→E.B ρ a11=true→E.B ρ a12=true→E.B ρ a13=true→E.B ρ a14=true→E.B ρ a15=true→E.B ρ a16=true→E.B ρ a17=true→E.B ρ a18=true→E.B ρ a19=true→E.B ρ a20=true→E.B ρ a21=true→E.B ρ a22=true→E.B ρ a23=true→E.B ρ a24=true→E.B ρ a25=true→E.B ρ a26=true→E.B ρ d=true):Tr (.imp (.and a0 (.and a1 (.and a2 (.and a3 (.and a4 (.and a5 (.and a6 (.and a7 (.and a8 (.and a9 (.and a10 (.and a11 (.and a12 (.and a13 (.and a14 (.and a15 (.and a16 (.and a17 (.and a18 (.and a19 (.and a20 (.and a21 (.and a22 (.and a23 (.and a24 (.and a25 a26)))))))))))))))))))))))))) d):=fun ρ=>by
 rw [sm_B_imp]
 simp only [sm_B_and]
 rintro ⟨p0,p1,p2,p3,p4,p5,p6,p7,p8,p9,p10,p11,p12,p13,p14,p15,p16,p17,p18,p19,p20,p21,p22,p23,p24,p25,p26⟩
 exact h ρ p0 p1 p2 p3 p4 p5 p6 p7 p8 p9 p10 p11 p12 p13 p14 p15 p16 p17 p18 p19 p20 p21 p22 p23 p24 p25 p26
theorem ii28 {a0 a1 a2 a3 a4 a5 a6 a7 a8 a9 a10 a11 a12 a13 a14 a15 a16 a17 a18 a19 a20 a21 a22 a23 a24 a25 a26 a27 d:E} (h:∀ ρ:Env,E.B ρ a0=true→E.B ρ a1=true→E.B ρ a2=true→E.B ρ a3=true→E.B ρ a4=true→E.B ρ a5=true→E.B ρ a6=true→E.B ρ a7=true→E.B ρ a8=true→E.B ρ a9=true→E.B ρ a10=true→E.B ρ a11=true→E.B ρ a12=true→E.B ρ a13=true→E.B ρ a14=true→E.B ρ a15=true→E.B ρ a16=true→E.B ρ a17=true→E.B ρ a18=true→E.B ρ a19=true→E.B ρ a20=true→E.B ρ a21=true→E.B ρ a22=true→E.B ρ a23=true→E.B ρ a24=true→E.B ρ a25=true→E.B ρ a26=true→E.B ρ a27=true→E.B ρ d=true):Tr (.imp (.and a0 (.and a1 (.and a2 (.and a3 (.and a4 (.and a5 (.and a6 (.and a7 (.and a8 (.and a9 (.and a10 (.and a11 (.and a12 (.and a13 (.and a14 (.and a15 (.and a16 (.and a17 (.and a18 (.and a19 (.and a20 (.and a21 (.and a22 (.and a23 (.and a24 (.and a25 (.and a26 a27))))))))))))))))))))))))))) d):=fun ρ=>by
 rw [sm_B_imp]
 simp only [sm_B_and]
 rintro ⟨p0,p1,p2,p3,p4,p5,p6,p7,p8,p9,p10,p11,p12,p13,p14,p15,p16,p17,p18,p19,p20,p21,p22,p23,p24,p25,p26,p27⟩
 exact h ρ p0 p1 p2 p3 p4 p5 p6 p7 p8 p9 p10 p11 p12 p13 p14 p15 p16 p17 p18 p19 p20 p21 p22 p23 p24 p25 p26 p27
theorem ii29 {a0 a1 a2 a3 a4 a5 a6 a7 a8 a9 a10 a11 a12 a13 a14 a15 a16 a17 a18 a19 a20 a21 a22 a23 a24 a25 a26 a27 a28 d:E} (h:∀ ρ:Env,E.B ρ a0=true→E.B ρ a1=true→E.B ρ a2=true→E.B ρ a3=true→E.B ρ a4=true→E.B ρ a5=true→E.B ρ a6=true→E.B ρ a7=true→E.B ρ a8=true→E.B ρ a9=true→E.B ρ a10=true→E.B ρ a11=true→E.B ρ a12=true→E.B ρ a13=true→E.B ρ a14=true→E.B ρ a15=true→E.B ρ a16=true→E.B ρ a17=true→E.B ρ a18=true→E.B ρ a19=true→E.B ρ a20=true→E.B ρ a21=true→E.B ρ a22=true→E.B ρ a23=true→E.B ρ a24=true→E.B ρ a25=true→E.B ρ a26=true→E.B ρ a27=true→E.B ρ a28=true→E.B ρ d=true):Tr (.imp (.and a0 (.and a1 (.and a2 (.and a3 (.and a4 (.and a5 (.and a6 (.and a7 (.and a8 (.and a9 (.and a10 (.and a11 (.and a12 (.and a13 (.and a14 (.and a15 (.and a16 (.and a17 (.and a18 (.and a19 (.and a20 (.and a21 (.and a22 (.and a23 (.and a24 (.and a25 (.and a26 (.and a27 a28)))))))))))))))))))))))))))) d):=fun ρ=>by
 rw [sm_B_imp]
 simp only [sm_B_and]
 rintro ⟨p0,p1,p2,p3,p4,p5,p6,p7,p8,p9,p10,p11,p12,p13,p14,p15,p16,p17,p18,p19,p20,p21,p22,p23,p24,p25,p26,p27,p28⟩
 exact h ρ p0 p1 p2 p3 p4 p5 p6 p7 p8 p9 p10 p11 p12 p13 p14 p15 p16 p17 p18 p19 p20 p21 p22 p23 p24 p25 p26 p27 p28
theorem ii30 {a0 a1 a2 a3 a4 a5 a6 a7 a8 a9 a10 a11 a12 a13 a14 a15 a16 a17 a18 a19 a20 a21 a22 a23 a24 a25 a26 a27 a28 a29 d:E} (h:∀ ρ:Env,E.B ρ a0=true→E.B ρ a1=true→E.B ρ a2=true→E.B ρ a3=true→E.B ρ a4=true→E.B ρ a5=true→E.B ρ a6=true→E.B ρ a7=true→E.B ρ a8=true→E.B ρ a9=true→E.B ρ a10=true→E.B ρ a11=true→E.B ρ a12=true→E.B ρ a13=true→E.B ρ a14=true→E.B ρ a15=true→E.B ρ a16=true→E.B ρ a17=true→E.B ρ a18=true→E.B ρ a19=true→E.B ρ a20=true→E.B ρ a21=true→E.B ρ a22=true→E.B ρ a23=true→E.B ρ a24=true→E.B ρ a25=true→E.B ρ a26=true→E.B ρ a27=true→E.B ρ a28=true→E.B ρ a29=true→E.B ρ d=true):Tr (.imp (.and a0 (.and a1 (.and a2 (.and a3 (.and a4 (.and a5 (.and a6 (.and a7 (.and a8 (.and a9 (.and a10 (.and a11 (.and a12 (.and a13 (.and a14 (.and a15 (.and a16 (.and a17 (.and a18 (.and a19 (.and a20 (.and a21 (.and a22 (.and a23 (.and a24 (.and a25 (.and a26 (.and a27 (.and a28 a29))))))))))))))))))))))))))))) d):=fun ρ=>by
 rw [sm_B_imp]
 simp only [sm_B_and]
 rintro ⟨p0,p1,p2,p3,p4,p5,p6,p7,p8,p9,p10,p11,p12,p13,p14,p15,p16,p17,p18,p19,p20,p21,p22,p23,p24,p25,p26,p27,p28,p29⟩
 exact h ρ p0 p1 p2 p3 p4 p5 p6 p7 p8 p9 p10 p11 p12 p13 p14 p15 p16 p17 p18 p19 p20 p21 p22 p23 p24 p25 p26 p27 p28 p29
theorem ii31 {a0 a1 a2 a3 a4 a5 a6 a7 a8 a9 a10 a11 a12 a13 a14 a15 a16 a17 a18 a19 a20 a21 a22 a23 a24 a25 a26 a27 a28 a29 a30 d:E} (h:∀ ρ:Env,E.B ρ a0=true→E.B ρ a1=true→E.B ρ a2=true→E.B ρ a3=true→E.B ρ a4=true→E.B ρ a5=true→E.B ρ a6=true→E.B ρ a7=true→E.B ρ a8=true→E.B ρ a9=true→E.B ρ a10=true→E.B ρ a11=true→E.B ρ a12=true→E.B ρ a13=true→E.B ρ a14=true→E.B ρ a15=true→E.B ρ a16=true→E.B ρ a17=true→E.B ρ a18=true→E.B ρ a19=true→E.B ρ a20=true→E.B ρ a21=true→E.B ρ a22=true→E.B ρ a23=true→E.B ρ a24=true→E.B ρ a25=true→E.B ρ a26=true→E.B ρ a27=true→E.B ρ a28=true→E.B ρ a29=true→E.B ρ a30=true→E.B ρ d=true):Tr (.imp (.and a0 (.and a1 (.and a2 (.and a3 (.and a4 (.and a5 (.and a6 (.and a7 (.and a8 (.and a9 (.and a10 (.and a11 (.and a12 (.and a13 (.and a14 (.and a15 (.and a16 (.and a17 (.and a18 (.and a19 (.and a20 (.and a21 (.and a22 (.and a23 (.and a24 (.and a25 (.and a26 (.and a27 (.and a28 (.and a29 a30)))))))))))))))))))))))))))))) d):=fun ρ=>by
 rw [sm_B_imp]
 simp only [sm_B_and]
 rintro ⟨p0,p1,p2,p3,p4,p5,p6,p7,p8,p9,p10,p11,p12,p13,p14,p15,p16,p17,p18,p19,p20,p21,p22,p23,p24,p25,p26,p27,p28,p29,p30⟩
 exact h ρ p0 p1 p2 p3 p4 p5 p6 p7 p8 p9 p10 p11 p12 p13 p14 p15 p16 p17 p18 p19 p20 p21 p22 p23 p24 p25 p26 p27 p28 p29 p30
theorem ii33 {a0 a1 a2 a3 a4 a5 a6 a7 a8 a9 a10 a11 a12 a13 a14 a15 a16 a17 a18 a19 a20 a21 a22 a23 a24 a25 a26 a27 a28 a29 a30 a31 a32 d:E} (h:∀ ρ:Env,E.B ρ a0=true→E.B ρ a1=true→E.B ρ a2=true→E.B ρ a3=true→E.B ρ a4=true→E.B ρ a5=true→E.B ρ a6=true→E.B ρ a7=true→E.B ρ a8=true→E.B ρ a9=true→E.B ρ a10=true→E.B ρ a11=true→E.B ρ a12=true→E.B ρ a13=true→E.B ρ a14=true→E.B ρ a15=true→E.B ρ a16=true→E.B ρ a17=true→E.B ρ a18=true→E.B ρ a19=true→E.B ρ a20=true→E.B ρ a21=true→E.B ρ a22=true→E.B ρ a23=true→E.B ρ a24=true→E.B ρ a25=true→E.B ρ a26=true→E.B ρ a27=true→E.B ρ a28=true→E.B ρ a29=true→E.B ρ a30=true→E.B ρ a31=true→E.B ρ a32=true→E.B ρ d=true):Tr (.imp (.and a0 (.and a1 (.and a2 (.and a3 (.and a4 (.and a5 (.and a6 (.and a7 (.and a8 (.and a9 (.and a10 (.and a11 (.and a12 (.and a13 (.and a14 (.and a15 (.and a16 (.and a17 (.and a18 (.and a19 (.and a20 (.and a21 (.and a22 (.and a23 (.and a24 (.and a25 (.and a26 (.and a27 (.and a28 (.and a29 (.and a30 (.and a31 a32)))))))))))))))))))))))))))))))) d):=fun ρ=>by
 rw [sm_B_imp]
 simp only [sm_B_and]
 rintro ⟨p0,p1,p2,p3,p4,p5,p6,p7,p8,p9,p10,p11,p12,p13,p14,p15,p16,p17,p18,p19,p20,p21,p22,p23,p24,p25,p26,p27,p28,p29,p30,p31,p32⟩
 exact h ρ p0 p1 p2 p3 p4 p5 p6 p7 p8 p9 p10 p11 p12 p13 p14 p15 p16 p17 p18 p19 p20 p21 p22 p23 p24 p25 p26 p27 p28 p29 p30 p31 p32
theorem ii35 {a0 a1 a2 a3 a4 a5 a6 a7 a8 a9 a10 a11 a12 a13 a14 a15 a16 a17 a18 a19 a20 a21 a22 a23 a24 a25 a26 a27 a28 a29 a30 a31 a32 a33 a34 d:E} (h:∀ ρ:Env,E.B ρ a0=true→E.B ρ a1=true→E.B ρ a2=true→E.B ρ a3=true→E.B ρ a4=true→E.B ρ a5=true→E.B ρ a6=true→E.B ρ a7=true→E.B ρ a8=true→E.B ρ a9=true→E.B ρ a10=true→E.B ρ a11=true→E.B ρ a12=true→E.B ρ a13=true→E.B ρ a14=true→E.B ρ a15=true→E.B ρ a16=true→E.B ρ a17=true→E.B ρ a18=true→E.B ρ a19=true→E.B ρ a20=true→E.B ρ a21=true→E.B ρ a22=true→E.B ρ a23=true→E.B ρ a24=true→E.B ρ a25=true→E.B ρ a26=true→E.B ρ a27=true→E.B ρ a28=true→E.B ρ a29=true→E.B ρ a30=true→E.B ρ a31=true→E.B ρ a32=true→E.B ρ a33=true→E.B ρ a34=true→E.B ρ d=true):Tr (.imp (.and a0 (.and a1 (.and a2 (.and a3 (.and a4 (.and a5 (.and a6 (.and a7 (.and a8 (.and a9 (.and a10 (.and a11 (.and a12 (.and a13 (.and a14 (.and a15 (.and a16 (.and a17 (.and a18 (.and a19 (.and a20 (.and a21 (.and a22 (.and a23 (.and a24 (.and a25 (.and a26 (.and a27 (.and a28 (.and a29 (.and a30 (.and a31 (.and a32 (.and a33 a34)))))))))))))))))))))))))))))))))) d):=fun ρ=>by
 rw [sm_B_imp]
 simp only [sm_B_and]
 rintro ⟨p0,p1,p2,p3,p4,p5,p6,p7,p8,p9,p10,p11,p12,p13,p14,p15,p16,p17,p18,p19,p20,p21,p22,p23,p24,p25,p26,p27,p28,p29,p30,p31,p32,p33,p34⟩
 exact h ρ p0 p1 p2 p3 p4 p5 p6 p7 p8 p9 p10 p11 p12 p13 p14 p15 p16 p17 p18 p19 p20 p21 p22 p23 p24 p25 p26 p27 p28 p29 p30 p31 p32 p33 p34
theorem ii45 {a0 a1 a2 a3 a4 a5 a6 a7 a8 a9 a10 a11 a12 a13 a14 a15 a16 a17 a18 a19 a20 a21 a22 a23 a24 a25 a26 a27 a28 a29 a30 a31 a32 a33 a34 a35 a36 a37 a38 a39 a40 a41 a42 a43 a44 d:E} (h:∀ ρ:Env,E.B ρ a0=true→E.B ρ a1=true→E.B ρ a2=true→E.B ρ a3=true→E.B ρ a4=true→E.B ρ a5=true→E.B ρ a6=true→E.B ρ a7=true→E.B ρ a8=true→E.B ρ a9=true→E.B ρ a10=true→E.B ρ a11=true→E.B ρ a12=true→E.B ρ a13=true→E.B ρ a14=true→E.B ρ a15=true→E.B ρ a16=true→E.B ρ a17=true→E.B ρ a18=true→E.B ρ a19=true→E.B ρ a20=true→E.B ρ a21=true→E.B ρ a22=true→E.B ρ a23=true→E.B ρ a24=true→E.B ρ a25=true→E.B ρ a26=true→E.B ρ a27=true→E.B ρ a28=true→E.B ρ a29=true→E.B ρ a30=true→E.B ρ a31=true→E.B ρ a32=true→E.B ρ a33=true→E.B ρ a34=true→E.B ρ a35=true→E.B ρ a36=true→E.B ρ a37=true→E.B ρ a38=true→E.B ρ a39=true→E.B ρ a40=true→E.B ρ a41=true→E.B ρ a42=true→E.B ρ a43=true→E.B ρ a44=true→E.B ρ d=true):Tr (.imp (.and a0 (.and a1 (.and a2 (.and a3 (.and a4 (.and a5 (.and a6 (.and a7 (.and a8 (.and a9 (.and a10 (.and a11 (.and a12 (.and a13 (.and a14 (.and a15 (.and a16 (.and a17 (.and a18 (.and a19 (.and a20 (.and a21 (.and a22 (.and a23 (.and a24 (.and a25 (.and a26 (.and a27 (.and a28 (.and a29 (.and a30 (.and a31 (.and a32 (.and a33 (.and a34 (.and a35 (.and a36 (.and a37 (.and a38 (.and a39 (.and a40 (.and a41 (.and a42 (.and a43 a44)))))))))))))))))))))))))))))))))))))))))))) d):=fun ρ=>by
 rw [sm_B_imp]
 simp only [sm_B_and]
 rintro ⟨p0,p1,p2,p3,p4,p5,p6,p7,p8,p9,p10,p11,p12,p13,p14,p15,p16,p17,p18,p19,p20,p21,p22,p23,p24,p25,p26,p27,p28,p29,p30,p31,p32,p33,p34,p35,p36,p37,p38,p39,p40,p41,p42,p43,p44⟩
 exact h ρ p0 p1 p2 p3 p4 p5 p6 p7 p8 p9 p10 p11 p12 p13 p14 p15 p16 p17 p18 p19 p20 p21 p22 p23 p24 p25 p26 p27 p28 p29 p30 p31 p32 p33 p34 p35 p36 p37 p38 p39 p40 p41 p42 p43 p44
theorem ii46 {a0 a1 a2 a3 a4 a5 a6 a7 a8 a9 a10 a11 a12 a13 a14 a15 a16 a17 a18 a19 a20 a21 a22 a23 a24 a25 a26 a27 a28 a29 a30 a31 a32 a33 a34 a35 a36 a37 a38 a39 a40 a41 a42 a43 a44 a45 d:E} (h:∀ ρ:Env,E.B ρ a0=true→E.B ρ a1=true→E.B ρ a2=true→E.B ρ a3=true→E.B ρ a4=true→E.B ρ a5=true→E.B ρ a6=true→E.B ρ a7=true→E.B ρ a8=true→E.B ρ a9=true→E.B ρ a10=true→E.B ρ a11=true→E.B ρ a12=true→E.B ρ a13=true→E.B ρ a14=true→E.B ρ a15=true→E.B ρ a16=true→E.B ρ a17=true→E.B ρ a18=true→E.B ρ a19=true→E.B ρ a20=true→E.B ρ a21=true→E.B ρ a22=true→E.B ρ a23=true→E.B ρ a24=true→E.B ρ a25=true→E.B ρ a26=true→E.B ρ a27=true→E.B ρ a28=true→E.B ρ a29=true→E.B ρ a30=true→E.B ρ a31=true→E.B ρ a32=true→E.B ρ a33=true→E.B ρ a34=true→E.B ρ a35=true→E.B ρ a36=true→E.B ρ a37=true→E.B ρ a38=true→E.B ρ a39=true→E.B ρ a40=true→E.B ρ a41=true→E.B ρ a42=true→E.B ρ a43=true→E.B ρ a44=true→E.B ρ a45=true→E.B ρ d=true):Tr (.imp (.and a0 (.and a1 (.and a2 (.and a3 (.and a4 (.and a5 (.and a6 (.and a7 (.and a8 (.and a9 (.and a10 (.and a11 (.and a12 (.and a13 (.and a14 (.and a15 (.and a16 (.and a17 (.and a18 (.and a19 (.and a20 (.and a21 (.and a22 (.and a23 (.and a24 (.and a25 (.and a26 (.and a27 (.and a28 (.and a29 (.and a30 (.and a31 (.and a32 (.and a33 (.and a34 (.and a35 (.and a36 (.and a37 (.and a38 (.and a39 (.and a40 (.and a41 (.and a42 (.and a43 (.and a44 a45))))))))))))))))))))))))))))))))))))))))))))) d):=fun ρ=>by
 rw [sm_B_imp]
 simp only [sm_B_and]
 rintro ⟨p0,p1,p2,p3,p4,p5,p6,p7,p8,p9,p10,p11,p12,p13,p14,p15,p16,p17,p18,p19,p20,p21,p22,p23,p24,p25,p26,p27,p28,p29,p30,p31,p32,p33,p34,p35,p36,p37,p38,p39,p40,p41,p42,p43,p44,p45⟩
 exact h ρ p0 p1 p2 p3 p4 p5 p6 p7 p8 p9 p10 p11 p12 p13 p14 p15 p16 p17 p18 p19 p20 p21 p22 p23 p24 p25 p26 p27 p28 p29 p30 p31 p32 p33 p34 p35 p36 p37 p38 p39 p40 p41 p42 p43 p44 p45
def ii (e:E):SV:=.int .i64 e
def gone:Blk:=⟨true,.gone⟩
def at0 (b:Nat):SV:=.ptr b ⟨0,0,.int 0⟩
def eEq (a b:E):E:=.cmp .eql a b
def pl (a b:E):E:=.fn 6 (.pr a b)
def mi (a b:E):E:=.fn 7 (.pr a b)
def tm (a b:E):E:=.fn 8 (.pr a b)
def ln (x:E):E:=.fn 0 x
def prs:List E→E
 | []=>.int 0
 | [a]=>a
 | a::l=>.pr a (prs l)
def fnE (f:Nat) (l:List E):E:=.fn f (prs l)
def nt (l i:E):E:=.fn 1 (.pr l i)
def rows (w:Int) (l:E):E:=.fn 9 (.pr l (.int w))
def emp:E:=.fn 10 (.int 0)
def kI:List CK:=[.int .i64]
def kO:List CK:=[.int .i64,.int .i64,.int .i64,.int .i64,.int .i64,.int .i64,.int .i64,.int .i64,.int .i64,.bool,.bool,.bool]
def kT:List CK:=[.int .i64,.int .i64]
def kIt:List CK:=[.int .i64,.int .i64,.int .i64,.int .i64,.slc kT]
def kS:List CK:=[.int .i64,.int .i64,.int .i64,.int .i64,.int .i64,.slc kI,.slc kI,.slc kI,.slc kI,.bool,.bool,.bool,.int .i64,.int .i64]
def kB:List CK:=.slc kO::(kS++(kS++[.slc kIt,.slc kIt,.slc kI,.slc kT,.int .i64,.int .i64,.int .i64,.int .i64,.int .i64]))
def cellV (e:E):CK→SV
 | .int k=>.int k e
 | .bool=>.bool e
 | .str=>.str e
 | .slc ks=>.bsl ks e
def cellsV (e:E):Nat→List CK→List SV
 | _,[]=>[]
 | j,c::cs=>cellV (nt e (.int (Int.ofNat j))) c::cellsV e (Nat.succ j) cs
def argX (e:E):SV:=.agg (cellsV e 0 kB)
def boxX (e:E):Blk:=⟨true,.cells (cellsV e 0 kB) (.int 38) 33⟩
def cl (e:E) (j:Int):E:=nt e (.int j)
def tyB (e:E):E:=.fn 116 e
def smB (e:E):E:=.fn 117 e
def pcX (e:E):List E:=[tyB e,smB e]
/-- an index that looks for what is right -/
def fun0 (f : FuncId) : SV := .func (.func f) [] []
def rT:E:=rows 2 (eV 0)
def spTF:Pact:=⟨119,[.bsl kT (eV 0),fun0 101],⟨1,0,.nil,[eLe rT (.int 1000)]⟩,[(ii (eV 1),⟨2,0,.nil,[.iff (eLe (.int 0) (eV 1)) (.not (fnE 101 [eV 0,rT])),eLe (.int (-1)) (eV 1)]⟩)]⟩
def tTF:Tmpl:=⟨tmSlots 19 [(0,.bsl kT (eV 0)),(1,fun0 101),(6,.bsl kT (eV 0)),(7,ii rT),(8,ii (eV 4))],⟨5,0,.nil,[eLe rT (.int 1000),eLe (.int 0) (eV 4),eLe (eV 4) rT,fnE 101 [eV 0,eV 4]]⟩,mi rT (eV 4)⟩
def annTF:List Ann:=[⟨119,0,[tTF],none⟩]
/-- an item: its cells, of the queue -/
def itE : List E := [eV 0, eV 1, eV 2, eV 3, eV 4, eV 5]
def itV:SV:=.agg [ii (eV 0),ii (eV 1),ii (eV 2),ii (eV 3),.bsl kT (eV 4)]
def spFine:Pact:=⟨66,[itV,.bool (eV 5)],⟨6,0,.nil,[]⟩,[(.bool (eV 6),⟨7,0,.nil,[.iff (eV 6) (fnE 102 itE)]⟩)]⟩
def rI:E:=rows 5 (eV 0)
def spIF (g:FuncId) (q:Bool):Pact:=⟨99,[.bsl kIt (eV 0),fun0 g],⟨1,0,.nil,[eLe rI (.int 1000)]⟩,[(ii (eV 1),⟨2,0,.nil,[.iff (eLe (.int 0) (eV 1)) (.not (fnE 103 [eV 0,.bool q,rI])),eLe (.int (-1)) (eV 1)]⟩)]⟩
def tIF (g:FuncId) (q:Bool):Tmpl:=⟨tmSlots 19 [(0,.bsl kIt (eV 0)),(1,fun0 g),(6,.bsl kIt (eV 0)),(7,ii rI),(8,ii (eV 4))],⟨5,0,.nil,[eLe rI (.int 1000),eLe (.int 0) (eV 4),eLe (eV 4) rI,fnE 103 [eV 0,.bool q,eV 4]]⟩,mi rI (eV 4)⟩
def annIF (g:FuncId) (q:Bool):List Ann:=[⟨99,0,[tIF g q],none⟩]
/-- whether a list has a number -/
def nI : E := ln (eV 0)
def f114 (l k:E):E:=fnE 114 [l,k]
def spIx:Pact:=⟨120,[.bsl kI (eV 0),ii (eV 1)],⟨2,0,.nil,[eLe nI (.int 1000)]⟩,[(ii (eV 2),⟨3,0,.nil,[.iff (eLe (.int 0) (eV 2)) (f114 (eV 0) (eV 1)),eLe (.int (-1)) (eV 2)]⟩)]⟩
def tIx:Tmpl:=⟨tmSlots 19 [(0,.bsl kI (eV 0)),(1,ii (eV 1)),(6,.bsl kI (eV 0)),(7,ii nI),(8,ii (eV 4))],⟨5,0,.nil,[eLe nI (.int 1000),eLe (.int 0) (eV 4),eLe (eV 4) nI,eEq (fnE 131 [eV 0,eV 1,eV 4]) (.int 0)]⟩,mi nI (eV 4)⟩
def annIx:List Ann:=[⟨120,0,[tIx],none⟩]
/-- an object that is right: 0 to 8 its numbers -/
def obV : SV := .agg ((List.range 9).map (fun j => ii (eV j)) ++ [.bool (eV 9), .bool (eV 10), .bool (eV 11)])
def spOV (f:FuncId):Pact:=⟨f,[obV],⟨12,0,.nil,[]⟩,[(.bool (eV 12),⟨13,0,.nil,[.iff (eV 12) (fnE 137 ((List.range 9).map eV))]⟩)]⟩
/-- all objects have a place: box, owners, the cell with them -/
def put (c : Nat) : SV := .func (.func 103) [] [at0 c]
def mapB (e:E):Blk:=⟨true,.mapl .i64 (.int .i64) e⟩
def heapP (W:Nat) (m:E) (more:List Blk):T Blk:=heapL (List.replicate W gone++[boxX (eV 0),mapB m,⟨true,.cells [.map (W + 1)] (.int 1) 162⟩]++more)
def slotsP (W:Nat):List (Nat × SV):=[(1,at0 W),(3,at0 (W + 2)),(4,put (W + 2))]
def f104 (m p q i:E):E:=fnE 104 [m,eV 0,p,q,i]
def t0P:Tmpl:=⟨tmSlots 138 (slotsP 8++[(21,ii (eV 8))]),⟨10,11,heapP 8 (eV 9) [],pcX (eV 0)++[eLe (.int 0) (eV 8),eLe (eV 8) (.int 2),f104 (eV 9) (eV 8) (.int 0) (.int 0)]⟩,mi (.int 2) (eV 8)⟩
def ptrs (W p:Nat):SV:=.agg ((List.range 4).map fun q=>.ptr W ⟨6 + 14 * p + q,0,.int 0⟩)
def t2P (p:Nat):Tmpl:=⟨tmSlots 138 (slotsP 8++[(5,ii (eV 8)),(21,ii (eV 8)),(27,ptrs 8 p),(28,ii (eV 16))]),⟨18,16,heapP 8 (eV 17) [],
 pcX (eV 0)++[eEq (eV 8) (.int (Int.ofNat p)),eLe (.int 0) (eV 16),eLe (eV 16) (.int 4),f104 (eV 17) (eV 8) (eV 16) (.int 0)]⟩,mi (.int 4) (eV 16)⟩
def t4P (p:Nat):Tmpl:=⟨tmSlots 138 (slotsP 8++[(5,ii (eV 8)),(21,ii (eV 8)),(27,ptrs 8 p),(28,ii (eV 16)),(33,.bsl kI (eV 28)),(34,ii (ln (eV 28))),(35,ii (eV 24))]),⟨29,24,heapP 8 (eV 25) [],
 pcX (eV 0)++[eEq (eV 8) (.int (Int.ofNat p)),eLe (.int 0) (eV 16),eLt (eV 16) (.int 4),eLe (.int 0) (eV 24),eLe (eV 24) (ln (eV 28)),eLe (ln (eV 28)) (.int 200),fnE 109 [eV 28,eV 0,eV 8,eV 16],f104 (eV 25) (eV 8) (eV 16) (eV 24)]⟩,mi (ln (eV 28)) (eV 24)⟩
def nSt:E:=rows 5 (cl (eV 0) 29)
def nOb:E:=rows 12 (cl (eV 0) 0)
def t6P:Tmpl:=⟨tmSlots 138 (slotsP 32++[(10,.map 35),(49,.bsl kIt (cl (eV 0) 29)),(50,ii nSt),(51,ii (eV 32))]),⟨35,36,heapP 32 (eV 33) [mapB (eV 34)],
 pcX (eV 0)++[eLe nSt (.int 200),eLe (.int 0) (eV 32),eLe (eV 32) nSt,fnE 105 [eV 33,eV 0,eV 32],fnE 106 [eV 34,eV 0,eV 32]]⟩,mi nSt (eV 32)⟩
def t8P:Tmpl:=⟨tmSlots 138 (slotsP 40++[(10,.map 43),(72,.bsl kO (cl (eV 0) 0)),(73,ii nOb),(74,ii (eV 40))]),⟨43,44,heapP 40 (eV 41) [mapB (eV 42)],
 pcX (eV 0)++[eLe nOb (.int 120),eLe (.int 0) (eV 40),eLe (eV 40) nOb,fnE 105 [eV 41,eV 0,nSt],fnE 106 [eV 42,eV 0,nSt],fnE 107 [eV 0,eV 40]]⟩,mi nOb (eV 40)⟩
def annPl:List Ann:=[⟨68,0,[t0P],none⟩,⟨68,2,[t2P 0,t2P 1],none⟩,⟨68,4,[t4P 0,t4P 1],none⟩,⟨68,6,[t6P],none⟩,⟨68,8,[t8P],none⟩]
def spPl:Pact:=⟨68,[argX (eV 0)],⟨1,0,.nil,pcX (eV 0)⟩,[(.bool (eV 1),⟨2,0,.nil,[.iff (eV 1) (.fn 108 (eV 0))]⟩)]⟩
/-- the attackers and the blocks -/
def mapT (e : E) : Blk := ⟨true, .mapl .i64 .bool e⟩
def actE:E:=cl (eV 0) 34
def pcFi:List E:=pcX (eV 0)++[.fn 108 (eV 0),eLe (.int 0) actE,eLe actE (.int 1)]
def spFi:Pact:=⟨69,[argX (eV 0)],⟨1,0,.nil,pcFi⟩,[(.bool (eV 1),⟨2,0,.nil,[.iff (eV 1) (.fn 110 (eV 0))]⟩)]⟩
def heapF (W:Nat):T Blk:=heapL (List.replicate W gone++[boxX (eV 0),mapT (eV (W + 1))])
def slotsF (W:Nat):List (Nat × SV):=[(1,at0 W),(3,.bsl kI (eV (W + 2))),(4,.bsl kI (eV (W + 3))),(5,.map (W + 1))]
def pcF2 (W:Nat):List E:=[fnE 109 [eV (W + 2),eV 0,actE,.int 2],fnE 109 [eV (W + 3),eV 0,mi (.int 1) actE,.int 2],eLe (ln (eV (W + 2))) (.int 200),eLe (ln (eV (W + 3))) (.int 200)]
def nAt:E:=ln (cl (eV 0) 31)
def nBl:E:=rows 2 (cl (eV 0) 32)
def t0F:Tmpl:=⟨tmSlots 85 (slotsF 8++[(25,.bsl kI (cl (eV 0) 31)),(26,ii nAt),(27,ii (eV 8))]),⟨12,10,heapF 8,
 pcFi++pcF2 8++[eLe nAt (.int 200),eLe (.int 0) (eV 8),eLe (eV 8) nAt,fnE 111 [eV 0,eV 8],fnE 113 [eV 9,eV 0,eV 8,.int 0]]⟩,mi nAt (eV 8)⟩
def t2F:Tmpl:=⟨tmSlots 85 (slotsF 16++[(44,.bsl kT (cl (eV 0) 32)),(45,ii nBl),(46,ii (eV 16))]),⟨20,18,heapF 16,
 pcFi++pcF2 16++[eLe nAt (.int 200),eLe nBl (.int 200),eLe (.int 0) (eV 16),eLe (eV 16) nBl,fnE 111 [eV 0,nAt],fnE 112 [eV 0,eV 16],fnE 113 [eV 17,eV 0,nAt,eV 16]]⟩,mi nBl (eV 16)⟩
def annFi:List Ann:=[⟨69,0,[t0F],none⟩,⟨69,2,[t2F],none⟩]
/-- the program's valid boards -/
def spV : Pact := ⟨29, [argX (eV 0)], ⟨1, 0, .nil, pcX (eV 0)⟩, [(.bool (eV 1), ⟨2, 0, .nil, [.iff (eV 1) (.fn 115 (eV 0))]⟩)]⟩
def natV:List Nat1:=[specNat (spIF 65 false),specNat (spIF 67 true),specNat spPl,specNat spFi]
/-- the reference: items, seats, counts, where an object is -/
def spIt : Pact := ⟨41, [itV, .bool (eV 5)], ⟨6, 0, .nil, []⟩, [(.bool (eV 6), ⟨7, 0, .nil, [.iff (eV 6) (fnE 102 itE)]⟩)]⟩
def spCt:Pact:=⟨77,[.bsl kI (eV 0),ii (eV 1)],⟨2,0,.nil,[eLe nI (.int 1000)]⟩,[(ii (eV 2),⟨3,0,.nil,[eEq (eV 2) (fnE 121 [eV 0,eV 1]),eLe (.int 0) (eV 2),eLe (eV 2) nI]⟩)]⟩
def spId:Pact:=⟨74,[argX (eV 0),ii (eV 1)],⟨2,0,.nil,pcX (eV 0)⟩,[(ii (eV 2),⟨3,0,.nil,[eEq (eV 2) (fnE 120 [eV 0,eV 1,nOb]),eLe (.int (-1)) (eV 2),eLt (eV 2) nOb]⟩)]⟩
def spPc:Pact:=⟨76,[argX (eV 0),ii (eV 1),ii (eV 2)],⟨3,0,.nil,pcX (eV 0)++[eLe (.int 0) (eV 1),eLe (eV 1) (.int 1)]⟩,[(ii (eV 3),⟨4,0,.nil,[eEq (eV 3) (fnE 122 [eV 0,eV 1,eV 2]),eLe (.int 0) (eV 3),eLe (eV 3) (.int 1000)]⟩)]⟩
def numIt:List E:=[eLe (.int 0) (eV 0),eLe (eV 0) (.int 1),eLe (.int 1) (eV 1),eLe (eV 1) (.int 500),eLe (.int 0) (eV 2),eLe (eV 2) (.int 399),eLe (.int (-1)) (eV 3),eLe (eV 3) (.int 1),eLe (rows 2 (eV 4)) (.int 4),.imp (eLe (.int 0) (eV 3)) (eEq (rows 2 (eV 4)) (.int 0)),.imp (eV 5) (eLe (.int 0) (eV 3))]
def tIt:Tmpl:=⟨tmSlots 108 [(1,.bool (eV 5)),(2,at0 8),(5,ii (eV 8))],⟨9,9,heapL (List.replicate 8 gone++[⟨true,.cells [ii (eV 0),ii (eV 1),ii (eV 2),ii (eV 3),.bsl kT (eV 4)] (.int 5) 74⟩]),
 numIt++[eLe (.int 0) (eV 8),eLe (eV 8) (rows 2 (eV 4)),fnE 101 [eV 4,eV 8]]⟩,mi (rows 2 (eV 4)) (eV 8)⟩
def annIt:List Ann:=[⟨41,0,[tIt],none⟩]
def tCt:Tmpl:=⟨tmSlots 22 [(0,.bsl kI (eV 0)),(1,ii (eV 1)),(5,ii (eV 9)),(6,ii (eV 8))],⟨10,0,.nil,[eLe nI (.int 1000),eLe (.int 0) (eV 8),eLe (eV 8) nI,eEq (eV 9) (fnE 131 [eV 0,eV 1,eV 8]),eLe (.int 0) (eV 9),eLe (eV 9) (eV 8)]⟩,mi nI (eV 8)⟩
def annCt:List Ann:=[⟨77,0,[tCt],none⟩]
def heapX (W:Nat):T Blk:=heapL (List.replicate W gone++[boxX (eV 0)])
def tId:Tmpl:=⟨tmSlots 22 [(1,ii (eV 1)),(2,at0 8),(5,ii (eV 8))],⟨9,9,heapX 8,pcX (eV 0)++[eLe nOb (.int 120),eLe (.int 0) (eV 8),eLe (eV 8) nOb,eEq (fnE 120 [eV 0,eV 1,eV 8]) (.int (-1))]⟩,mi nOb (eV 8)⟩
def annId:List Ann:=[⟨74,0,[tId],none⟩]
def tPc:Tmpl:=⟨tmSlots 56 [(1,ii (eV 1)),(2,ii (eV 2)),(3,at0 16),(7,ii (eV 17)),(10,ii (eV 16))],⟨18,17,heapX 16,pcX (eV 0)++[eLe (.int 0) (eV 1),eLe (eV 1) (.int 1),eLe nSt (.int 200),eLe (.int 0) (eV 16),eLe (eV 16) nSt,
 eEq (eV 17) (pl (fnE 132 [eV 0,eV 1,.int 4,eV 2]) (fnE 133 [eV 0,eV 1,eV 2,eV 16])),eLe (.int 0) (eV 17),eLe (eV 17) (pl (.int 800) (eV 16))]⟩,mi nSt (eV 16)⟩
def annPc:List Ann:=[⟨76,2,[tPc],none⟩]
def t4D:Tmpl:=⟨tmSlots 108 [(1,at0 16),(3,ii (eV 17)),(7,ii (eV 16))],⟨18,17,heapX 16,pcX (eV 0)++[eLe nSt (.int 200),eLe nOb (.int 120),eLe (.int 0) (eV 16),eLe (eV 16) nSt,
 eEq (eV 17) (pl (fnE 134 [eV 0,.int 8]) (fnE 135 [eV 0,eV 16])),eLe (.int 0) (eV 17),eLe (eV 17) (pl (.int 1600) (eV 16)),fnE 123 [eV 0,eV 16]]⟩,mi nSt (eV 16)⟩
def t6D:Tmpl:=⟨tmSlots 108 [(1,at0 24),(3,ii (eV 25)),(10,ii (eV 24))],⟨26,25,heapX 24,pcX (eV 0)++[eLe nOb (.int 120),eLe (.int 0) (eV 24),eLe (eV 24) nOb,
 eEq (eV 25) (pl (fnE 134 [eV 0,.int 8]) (fnE 135 [eV 0,nSt])),fnE 123 [eV 0,nSt],fnE 124 [eV 0,eV 24]]⟩,mi nOb (eV 24)⟩
def annFd:List Ann:=[⟨43,4,[t4D],none⟩,⟨43,6,[t6D],none⟩]
def pcA:List E:=pcX (eV 0)++[eLe (.int 0) actE,eLe actE (.int 1),eLe nAt (.int 200),eLe nBl (.int 200)]
def t0R:Tmpl:=⟨tmSlots 94 [(1,at0 8),(3,ii (eV 8))],⟨9,9,heapX 8,pcA++[eLe (.int 0) (eV 8),eLe (eV 8) nAt,fnE 126 [eV 0,eV 8]]⟩,mi nAt (eV 8)⟩
def t2R:Tmpl:=⟨tmSlots 94 [(1,at0 16),(4,ii (eV 16))],⟨17,17,heapX 16,pcA++[eLe (.int 0) (eV 16),eLe (eV 16) nBl,fnE 126 [eV 0,nAt],fnE 127 [eV 0,eV 16]]⟩,mi nBl (eV 16)⟩
def bRow (j:Int):E:=nt (cl (eV 0) 32) (pl (tm (eV 16) (.int 2)) (.int j))
def t4R:Tmpl:=⟨tmSlots 94 [(1,at0 16),(4,ii (eV 16)),(5,at0 24),(6,ii (eV 24))],⟨25,25,heapL (List.replicate 16 gone++[boxX (eV 0)]++List.replicate 7 gone++[⟨true,.cells [ii (bRow 0),ii (bRow 1)] (.int 2) 92⟩]),
 pcA++[eLe (.int 0) (eV 16),eLt (eV 16) nBl,fnE 126 [eV 0,nAt],fnE 127 [eV 0,eV 16],eLe (.int 0) (eV 24),eLe (eV 24) (eV 16),fnE 136 [eV 0,eV 16],fnE 128 [eV 0,eV 16,eV 24]]⟩,mi (eV 16) (eV 24)⟩
def annFr:List Ann:=[⟨44,0,[t0R],none⟩,⟨44,2,[t2R],none⟩,⟨44,4,[t4R],none⟩]
def spFd:Pact:=⟨43,[argX (eV 0)],⟨1,0,.nil,pcX (eV 0)⟩,[(.bool (eV 1),⟨2,0,.nil,[.iff (eV 1) (.fn 125 (eV 0))]⟩)]⟩
def spFr:Pact:=⟨44,[argX (eV 0)],⟨1,0,.nil,pcX (eV 0)++[eLe (.int 0) actE,eLe actE (.int 1)]⟩,[(.bool (eV 1),⟨2,0,.nil,[.iff (eV 1) (.fn 129 (eV 0))]⟩)]⟩
def spBV:Pact:=⟨14,[argX (eV 0)],⟨1,0,.nil,pcX (eV 0)⟩,[(.bool (eV 1),⟨2,0,.nil,[.iff (eV 1) (.fn 130 (eV 0))]⟩)]⟩
def numB:List E:=[eLe (.int 0) actE,eLe actE (.int 1),eLe (.int 0) (cl (eV 0) 33),eLe (cl (eV 0) 33) (.int 1000),eLe (.int 0) (cl (eV 0) 35),eLe (cl (eV 0) 35) (.int 10),eLe (.int (-1)) (cl (eV 0) 36),eLe (cl (eV 0) 36) (.int 1),eLe (.int 0) (cl (eV 0) 37),eLe (cl (eV 0) 37) (.int 2)]
def nQu:E:=rows 5 (cl (eV 0) 30)
def f103 (c:Int) (q:Bool) (n:E):E:=fnE 103 [cl (eV 0) c,.bool q,n]
def tV0:Tmpl:=⟨tmSlots 117 [(1,at0 8),(3,ii (eV 8))],⟨9,9,heapX 8,pcX (eV 0)++numB++[eLe nSt (.int 200),eLe (.int 0) (eV 8),eLe (eV 8) nSt,f103 29 false (eV 8)]⟩,mi nSt (eV 8)⟩
def tV2:Tmpl:=⟨tmSlots 117 [(1,at0 16),(4,ii (eV 16))],⟨17,17,heapX 16,pcX (eV 0)++numB++[eLe nQu (.int 200),f103 29 false nSt,eLe (.int 0) (eV 16),eLe (eV 16) nQu,f103 30 true (eV 16)]⟩,mi nQu (eV 16)⟩
def annBV:List Ann:=[⟨14,0,[tV0],none⟩,⟨14,2,[tV2],none⟩]
def f145 (X p:E):E:=fnE 145 [X,p]
def flI (x n c:E):Blk:=⟨true,.flat kI x n c 3⟩
/-- what is hidden: the program's and the reference's -/
def spH : Pact := ⟨20, [argX (eV 0), ii (eV 1)], ⟨2, 0, .nil, pcX (eV 0)⟩,
  [(.tup [.nils, ii (.int 2)], ⟨2, 0, .nil, [.not (f145 (eV 0) (eV 1))]⟩),
   (.tup [.nils, ii (.int 0)], ⟨2, 0, .nil, [f145 (eV 0) (eV 1), fnE 163 [emp, eV 0, eV 1]]⟩),
   (.tup [.nslice 0 (eV 3) (eV 4), ii (.int 0)], ⟨5, 1, heapL [flI (eV 2) (eV 3) (eV 4)], [eLe (.int 1) (eV 3), eLe (eV 3) (eV 4), eEq (ln (eV 2)) (eV 3), eLe (eV 3) (.int 600), f145 (eV 0) (eV 1), fnE 163 [eV 2, eV 0, eV 1]]⟩)]⟩
def pcRH:List E:=pcX (eV 0)++[f145 (eV 0) (eV 1),eLe (.int 0) (eV 1),eLe (eV 1) (.int 1)]
def spRH : Pact := ⟨22, [argX (eV 0), ii (eV 1)], ⟨2, 0, .nil, pcRH⟩,
  [(.nils, ⟨2, 0, .nil, [fnE 163 [emp, eV 0, eV 1]]⟩),
   (.nslice 0 (eV 3) (eV 4), ⟨5, 1, heapL [flI (eV 2) (eV 3) (eV 4)], [eLe (.int 1) (eV 3), eLe (eV 3) (eV 4), eEq (ln (eV 2)) (eV 3), eLe (eV 3) (.int 600), fnE 163 [eV 2, eV 0, eV 1]]⟩)]⟩
def baseRH:List E:=pcRH++[eLe (eV 9) (eV 10),eEq (ln (eV 8)) (eV 9),eLe (.int 0) (eV 9),eLe (eV 9) (.int 600),fnE 162 [eV 8,eV 0,eV 1],eLe (.int 0) (eV 14),eLe (eV 14) (eV 9)]
def outRH (k:Bool):List E:=if k then [eEq (eV 12) (eV 14),eLe (.int 1) (eV 12),eLe (eV 12) (eV 13),eEq (ln (eV 11)) (eV 12),fnE 152 [eV 11,eV 8,eV 14]] else [eEq (eV 14) (.int 0)]
def heapRH (k:Bool):T Blk:=heapL (List.replicate 8 gone++[flI (eV 8) (eV 9) (eV 10),if k then flI (eV 11) (eV 12) (eV 13) else gone])
def slRH (k:Bool):List (Nat × SV):=[(1,ii (eV 1)),(4,.nils),(5,.nslice 8 (eV 9) (eV 10)),(6,if k then .nslice 9 (eV 12) (eV 13) else .nils),(7,ii (eV 14))]
def tRH (k:Bool):Tmpl:=⟨tmSlots 67 (slRH k),⟨15,10,heapRH k,baseRH++outRH k⟩,mi (eV 9) (eV 14)⟩
def tRH0:Tmpl:=⟨tmSlots 67 [(1,ii (eV 1)),(4,.nils),(5,.nils),(6,.nils),(7,ii (.int 0))],⟨15,10,heapL (List.replicate 10 gone),pcRH++[fnE 162 [emp,eV 0,eV 1]]⟩,.int 0⟩
def tRH2 (k:Bool):Tmpl:=⟨tmSlots 67 (slRH k++[(8,ii (if k then eV 16 else .int 0))]),⟨17,10,heapRH k,baseRH++outRH k++[eLt (eV 14) (eV 9)]++(if k then [eLe (.int 0) (eV 16),eLe (eV 16) (eV 12),fnE 160 [eV 11,nt (eV 8) (eV 14),eV 16]] else [])⟩,if k then mi (eV 12) (eV 16) else .int 0⟩
def annRH:List Ann:=[⟨22,0,[tRH0,tRH false,tRH true],none⟩,⟨22,2,[tRH2 false,tRH2 true],none⟩]
/-- targets, small boards, equal lists, the law -/
def spTg : Pact := ⟨32, [.bsl kIt (eV 0)], ⟨1, 0, .nil, [eLe rI (.int 1000)]⟩, [(ii (eV 1), ⟨2, 0, .nil, []⟩)]⟩
def spSm:Pact:=⟨10,[argX (eV 0)],⟨1,0,.nil,[]⟩,[(.bool (eV 1),⟨2,0,.nil,[.imp (eV 1) (smB (eV 0))]⟩)]⟩
def pcIn:List E:=[eLe (eV 1) (eV 2),eEq (ln (eV 0)) (eV 1),eLe (.int 0) (eV 1),eLe (eV 1) (.int 1000),eLe (eV 4) (eV 5),eEq (ln (eV 3)) (eV 4),eLe (.int 0) (eV 4),eLe (eV 4) (.int 1000)]
def heapIn:T Blk:=heapL [flI (eV 0) (eV 1) (eV 2),flI (eV 3) (eV 4) (eV 5)]
def spIn:Pact:=⟨21,[.nslice 0 (eV 1) (eV 2),.nslice 1 (eV 4) (eV 5)],⟨6,2,heapIn,pcIn⟩,[(.bool (eV 6),⟨7,2,heapIn,[.iff (eV 6) (.and (eEq (eV 1) (eV 4)) (fnE 161 [eV 0,eV 3,eV 1]))]⟩)]⟩
def args:List SV:=[argX (eV 0),ii (eV 1)]
def pc0:List E:=[tyB (eV 0)]
def tTg:Tmpl:=⟨tmSlots 20 [(0,.bsl kIt (eV 0)),(3,ii (eV 8)),(4,ii (eV 9))],⟨10,0,.nil,[eLe rI (.int 1000),eLe (.int 0) (eV 9),eLe (eV 9) rI]⟩,mi rI (eV 9)⟩
def annTg:List Ann:=[⟨32,0,[tTg],none⟩]
def tIn:Tmpl:=⟨tmSlots 26 [(0,.nslice 0 (eV 1) (eV 2)),(1,.nslice 1 (eV 4) (eV 5)),(5,ii (eV 8))],⟨9,2,heapIn,pcIn++[eEq (eV 4) (eV 1),eLe (.int 0) (eV 8),eLe (eV 8) (eV 1),fnE 161 [eV 0,eV 3,eV 8]]⟩,mi (eV 1) (eV 8)⟩
def annIn:List Ann:=[⟨21,0,[tIn],none⟩]

def natl0:List Nat1:=nats
theorem natl0_ok:∀ x∈natl0,NatOk Try.prog x:=nats_ok

theorem reckoned0:withTab Try.prog (fun tb=>checkAll outTrue (run Try.prog (tb.plus [] [] natl0) 3000 (.call 11 []) .nil (varSt 0 []) SX.one))=true:=by kernel_rfl
def natl1:List Nat1:=closedNat 11::natl0
theorem natl1_ok:∀ x∈natl1,NatOk Try.prog x:=by
 intro x hx
 rcases List.mem_cons.1 hx with rfl | hx
 ·exact closed_of_check good (facts:=[]) all_nil (anns:=[]) (plainAnns_ok [] rfl) (nats:=natl0) natl0_ok reckoned0
 ·exact natl0_ok x hx

def F0:E:=(.fn 101 (.pr Q0 (.int 0)))
theorem G0:Tr F0:=fun ρ=>by
 unfold F0
 exact t101_zero (by (try simp only [sm_I_int]); omega)
def F1:E:=(.imp (.and Q2 (.and Q3 Q4)) Q7)
theorem G1:Tr F1:=ii3 fun ρ p0 p1 p2=>by
 have:=fun h0 h1=>@t101_fail ρ Q1 Q0 (.fn 9 (.pr Q0 (.int 2))) h0 h1 (.fn 1 (.pr Q0 (.fn 6 (.pr (.fn 8 (.pr Q1 (.int 2))) (.int 0))))) (.fn 1 (.pr Q0 (.fn 6 (.pr (.fn 8 (.pr Q1 (.int 2))) (.int 1))))) rfl rfl
 try simp only [smA,smW] at *
 grind
def F2:E:=(.imp (.and Q2 (.and Q8 (.and Q9 Q4))) Q7)
theorem G2:Tr F2:=ii4 fun ρ p0 p1 p2 p3=>by
 have:=fun h0 h1=>@t101_fail ρ Q1 Q0 (.fn 9 (.pr Q0 (.int 2))) h0 h1 (.fn 1 (.pr Q0 (.fn 6 (.pr (.fn 8 (.pr Q1 (.int 2))) (.int 0))))) (.fn 1 (.pr Q0 (.fn 6 (.pr (.fn 8 (.pr Q1 (.int 2))) (.int 1))))) rfl rfl
 try simp only [smA,smW] at *
 grind
def F3:E:=(.imp (.and Q2 (.and Q8 (.and (.not Q9) (.and (.not Q10) (.and (.not Q11) (.and (.not Q12) Q4)))))) Q7)
theorem G3:Tr F3:=ii7 fun ρ p0 p1 p2 p3 p4 p5 p6=>by
 have:=fun h0 h1=>@t101_fail ρ Q1 Q0 (.fn 9 (.pr Q0 (.int 2))) h0 h1 (.fn 1 (.pr Q0 (.fn 6 (.pr (.fn 8 (.pr Q1 (.int 2))) (.int 0))))) (.fn 1 (.pr Q0 (.fn 6 (.pr (.fn 8 (.pr Q1 (.int 2))) (.int 1))))) rfl rfl
 try simp only [smA,smW] at *
 grind
def F4:E:=(.imp Q16 Q19)
theorem G4:Tr F4:=ii3 fun ρ p0 p1 p2=>by
 have hq0:0≤E.I ρ (.fn 9 (.pr Q0 (.int 2))):=Int.natCast_nonneg _
 try simp only [smA,smW] at *
 obtain ⟨a4,ea4,qa4⟩:=cs_i64 ((E.I ρ Q1) + (1))
 try simp only [ea4] at *
 omega
def F5:E:=(.imp (.and Q2 (.and Q8 (.and (.not Q9) (.and Q10 Q4)))) Q7)
theorem G5:Tr F5:=ii5 fun ρ p0 p1 p2 p3 p4=>by
 have:=fun h0 h1=>@t101_fail ρ Q1 Q0 (.fn 9 (.pr Q0 (.int 2))) h0 h1 (.fn 1 (.pr Q0 (.fn 6 (.pr (.fn 8 (.pr Q1 (.int 2))) (.int 0))))) (.fn 1 (.pr Q0 (.fn 6 (.pr (.fn 8 (.pr Q1 (.int 2))) (.int 1))))) rfl rfl
 try simp only [smA,smW] at *
 grind
def F6:E:=(.imp (.and Q2 (.and Q8 (.and Q20 Q4))) Q7)
theorem G6:Tr F6:=ii4 fun ρ p0 p1 p2 p3=>by
 have:=fun h0 h1=>@t101_fail ρ Q1 Q0 (.fn 9 (.pr Q0 (.int 2))) h0 h1 (.fn 1 (.pr Q0 (.fn 6 (.pr (.fn 8 (.pr Q1 (.int 2))) (.int 0))))) (.fn 1 (.pr Q0 (.fn 6 (.pr (.fn 8 (.pr Q1 (.int 2))) (.int 1))))) rfl rfl
 try simp only [smA,smW] at *
 grind
def F7:E:=(.imp (.and (.not Q2) Q21) (.iff Q22 Q6))
theorem G7:Tr F7:=ii2 fun ρ p0 p1=>by
 have:=fun h1=>@t101_end ρ Q1 Q0 (.fn 9 (.pr Q0 (.int 2))) p1 h1
 try simp only [smA,smW] at *
 grind
def F8:E:=(.imp (.and Q2 Q4) (.not (.cmp .lss (.fn 9 (.pr Q0 (.int 2))) Q17)))
theorem G8:Tr F8:=ii2 fun ρ p0 p1=>by
 try simp only [smA,smW] at *
 obtain ⟨a4,ea4,qa4⟩:=cs_i64 ((E.I ρ Q1) + (1))
 try simp only [ea4] at *
 omega
def F9:E:=(.imp (.and Q2 (.and Q8 (.and (.not Q9) (.and (.not Q10) (.and (.not Q11) (.and Q12 Q24)))))) (.fn 101 (.pr Q0 Q17)))
theorem G9:Tr F9:=ii10 fun ρ p0 p1 p2 p3 p4 p5 p6 p7 p8 p9=>by
 have:=@wrap_add ρ Q1 (.int 1)
 have:=fun h0 hm=>@t101_step ρ Q1 Q17 Q0 p7 h0 hm (.fn 1 (.pr Q0 (.fn 6 (.pr (.fn 8 (.pr Q1 (.int 2))) (.int 0))))) (.fn 1 (.pr Q0 (.fn 6 (.pr (.fn 8 (.pr Q1 (.int 2))) (.int 1))))) rfl rfl
 try simp only [smA,smW] at *
 grind
def F10:E:=(.imp (.and Q2 (.and Q8 (.and (.not Q9) (.and (.not Q10) (.and Q11 Q24))))) (.fn 101 (.pr Q0 Q17)))
theorem G10:Tr F10:=ii9 fun ρ p0 p1 p2 p3 p4 p5 p6 p7 p8=>by
 have:=@wrap_add ρ Q1 (.int 1)
 have:=fun h0 hm=>@t101_step ρ Q1 Q17 Q0 p6 h0 hm (.fn 1 (.pr Q0 (.fn 6 (.pr (.fn 8 (.pr Q1 (.int 2))) (.int 0))))) (.fn 1 (.pr Q0 (.fn 6 (.pr (.fn 8 (.pr Q1 (.int 2))) (.int 1))))) rfl rfl
 try simp only [smA,smW] at *
 grind
def F11:E:=(.imp Q16 (.cmp .lss (.fn 7 (.pr (.fn 9 (.pr Q0 (.int 2))) Q17)) (.fn 7 (.pr (.fn 9 (.pr Q0 (.int 2))) Q1))))
theorem G11:Tr F11:=ii3 fun ρ p0 p1 p2=>by
 have hq0:0≤E.I ρ (.fn 9 (.pr Q0 (.int 2))):=Int.natCast_nonneg _
 try simp only [smA,smW] at *
 obtain ⟨a4,ea4,qa4⟩:=cs_i64 ((E.I ρ Q1) + (1))
 try simp only [ea4] at *
 omega
def F12:E:=(.imp (.and Q2 Q4) (.not (.cmp .lss (.fn 7 (.pr (.fn 9 (.pr Q0 (.int 2))) Q17)) (.int 0))))
theorem G12:Tr F12:=ii2 fun ρ p0 p1=>by
 try simp only [smA,smW] at *
 obtain ⟨a4,ea4,qa4⟩:=cs_i64 ((E.I ρ Q1) + (1))
 try simp only [ea4] at *
 omega
namespace p0
def facts:List E:=[F0,F1,F2,F3,F4,F5,F6,F7,F8,F9,F10,F11,F12]
theorem facts_ok:∀ e∈facts,Tr e:=(ac G0 (ac G1 (ac G2 (ac G3 (ac G4 (ac G5 (ac G6 (ac G7 (ac G8 (ac G9 (ac G10 (ac G11 (ac G12 all_nil)))))))))))))
end p0
theorem spec0_0:NatOk Try.prog (specNat (spTF)) :=
 spec_of_check good (facts:=p0.facts) p0.facts_ok (anns:=annTF) (plainAnns_ok _ (by kernel_rfl)) (nats:=natl1) natl1_ok (n:=3000) (by kernel_rfl)
def natl2:List Nat1:=specNat (spTF)::natl1
theorem natl2_ok:∀ x∈natl2,NatOk Try.prog x:=by
 intro x hx
 rcases List.mem_cons.1 hx with rfl | hx
 ·exact spec0_0
 exact natl1_ok x hx

def F13:E:=(.imp (.cmp .lss Q0 (.int 0)) Q34)
theorem G13:Tr F13:=ii1 fun ρ p0=>by
 have:=(@z102 ρ Q27 Q25 Q0 Q28 Q26 Q1)
 try simp only [smA,smW] at *
 grind
def F14:E:=(.imp (.and Q35 (.and Q36 (.cmp .lss Q25 (.int 1)))) Q34)
theorem G14:Tr F14:=ii3 fun ρ p0 p1 p2=>by
 have:=(@z102 ρ Q27 Q25 Q0 Q28 Q26 Q1)
 try simp only [smA,smW] at *
 grind
def F15:E:=(.imp (.and Q35 (.and Q36 (.and Q37 (.cmp .lss Q26 (.int 0))))) Q34)
theorem G15:Tr F15:=ii4 fun ρ p0 p1 p2 p3=>by
 have:=(@z102 ρ Q27 Q25 Q0 Q28 Q26 Q1)
 try simp only [smA,smW] at *
 grind
def F16:E:=(.imp (.and Q35 (.and Q36 (.and Q37 (.and Q38 (.cmp .lss Q27 (.int (-1))))))) Q34)
theorem G16:Tr F16:=ii5 fun ρ p0 p1 p2 p3 p4=>by
 have:=(@z102 ρ Q27 Q25 Q0 Q28 Q26 Q1)
 try simp only [smA,smW] at *
 grind
def F17:E:=(.imp (.and Q35 (.and Q36 (.and Q37 (.and Q38 (.and Q39 (.and Q40 (.and (.not Q41) (.and Q43 (.and (.not Q44) (.and Q28 Q57)))))))))) Q58)
theorem G17:Tr F17:=ii13 fun ρ p0 p1 p2 p3 p4 p5 p6 p7 p8 p9 p10 p11 p12=>by
 have hq0:0≤E.I ρ (.fn 9 (.pr Q1 (.int 2))):=Int.natCast_nonneg _
 have hl0:=(z102 (ρ:=ρ) (p:=Q0) (i:=Q25) (c:=Q26) (k:=Q27) (T:=Q1) (q:=Q28))
 try simp only [smA,smW] at *
 grind
def F18:E:=(.imp (.and Q35 (.and Q36 (.and Q37 (.and Q38 (.and Q39 (.and Q40 (.and (.not Q41) (.and Q43 (.and (.not Q44) Q57))))))))) Q58)
theorem G18:Tr F18:=ii12 fun ρ p0 p1 p2 p3 p4 p5 p6 p7 p8 p9 p10 p11=>by
 have hq0:0≤E.I ρ (.fn 9 (.pr Q1 (.int 2))):=Int.natCast_nonneg _
 have hl0:=(z102 (ρ:=ρ) (p:=Q0) (i:=Q25) (c:=Q26) (k:=Q27) (T:=Q1) (q:=Q28))
 try simp only [smA,smW] at *
 grind
def F19:E:=(.imp (.and Q35 (.and Q36 (.and Q37 (.and Q38 (.and Q39 (.and Q40 (.and (.not Q41) (.and Q43 (.and Q44 Q56))))))))) Q34)
theorem G19:Tr F19:=ii11 fun ρ p0 p1 p2 p3 p4 p5 p6 p7 p8 p9 p10=>by
 have:=(@z102 ρ Q27 Q25 Q0 Q28 Q26 Q1)
 try simp only [smA,smW] at *
 grind
def F20:E:=(.imp (.and Q35 (.and Q36 (.and Q37 (.and Q38 (.and Q39 (.and Q40 (.and (.not Q41) (.and Q42 Q28)))))))) Q34)
theorem G20:Tr F20:=ii9 fun ρ p0 p1 p2 p3 p4 p5 p6 p7 p8=>by
 have:=(@z102 ρ Q27 Q25 Q0 Q28 Q26 Q1)
 try simp only [smA,smW] at *
 grind
def F21:E:=(.imp (.and Q35 (.and Q36 (.and Q37 (.and Q38 (.and Q39 (.and Q40 (.and (.not Q41) (.and Q42 (.and (.not Q28) Q57))))))))) Q58)
theorem G21:Tr F21:=ii12 fun ρ p0 p1 p2 p3 p4 p5 p6 p7 p8 p9 p10 p11=>by
 have:=(@z102 ρ Q27 Q25 Q0 Q28 Q26 Q1)
 try simp only [smA,smW] at *
 grind
def F22:E:=(.imp (.and Q35 (.and Q36 (.and Q37 (.and Q38 (.and Q39 (.and Q40 Q41)))))) Q34)
theorem G22:Tr F22:=ii7 fun ρ p0 p1 p2 p3 p4 p5 p6=>by
 have:=(@z102 ρ Q27 Q25 Q0 Q28 Q26 Q1)
 try simp only [smA,smW] at *
 grind
def F23:E:=(.imp (.and Q35 (.and Q36 (.and Q37 (.and Q38 (.and Q39 (.cmp .lss (.int 1) Q27)))))) Q34)
theorem G23:Tr F23:=ii6 fun ρ p0 p1 p2 p3 p4 p5=>by
 have:=(@z102 ρ Q27 Q25 Q0 Q28 Q26 Q1)
 try simp only [smA,smW] at *
 grind
def F24:E:=(.imp (.and Q35 (.and Q36 (.and Q37 (.and Q38 Q54)))) Q34)
theorem G24:Tr F24:=ii5 fun ρ p0 p1 p2 p3 p4=>by
 have:=(@z102 ρ Q27 Q25 Q0 Q28 Q26 Q1)
 try simp only [smA,smW] at *
 grind
def F25:E:=(.imp (.and Q35 (.and Q36 (.and Q37 Q52))) Q34)
theorem G25:Tr F25:=ii4 fun ρ p0 p1 p2 p3=>by
 have:=(@z102 ρ Q27 Q25 Q0 Q28 Q26 Q1)
 try simp only [smA,smW] at *
 grind
def F26:E:=(.imp (.and Q35 (.cmp .lss (.int 1) Q0)) Q34)
theorem G26:Tr F26:=ii2 fun ρ p0 p1=>by
 have:=(@z102 ρ Q27 Q25 Q0 Q28 Q26 Q1)
 try simp only [smA,smW] at *
 grind
namespace p1
def facts:List E:=[F13,F14,F15,F16,F17,F18,F19,F20,F21,F22,F23,F24,F25,F26]
theorem facts_ok:∀ e∈facts,Tr e:=(ac G13 (ac G14 (ac G15 (ac G16 (ac G17 (ac G18 (ac G19 (ac G20 (ac G21 (ac G22 (ac G23 (ac G24 (ac G25 (ac G26 all_nil))))))))))))))
end p1
theorem spec1_0:NatOk Try.prog (specNat (spFine)) :=
 spec_of_check good (facts:=p1.facts) p1.facts_ok (anns:=[]) (plainAnns_ok _ (by kernel_rfl)) (nats:=natl2) natl2_ok (n:=3000) (by kernel_rfl)
def natl3:List Nat1:=specNat (spFine)::natl2
theorem natl3_ok:∀ x∈natl3,NatOk Try.prog x:=by
 intro x hx
 rcases List.mem_cons.1 hx with rfl | hx
 ·exact spec1_0
 exact natl2_ok x hx

def F27:E:=(.fn 103 (.pr Q0 (.pr Q22 (.int 0))))
theorem G27:Tr F27:=fun ρ=>by
 unfold F27
 exact t103_zero (by (try simp only [sm_I_int]); omega)
def F28:E:=(.imp (.and Q59 (.and Q66 (.and (.not Q28) Q4))) (.iff Q4 Q69))
theorem G28:Tr F28:=ii4 fun ρ p0 p1 p2 p3=>by
 have:=fun h0 h1=>@t103_fail ρ Q1 Q22 (.fn 9 (.pr Q0 (.int 5))) Q0 h0 h1 Q65 rfl
 try simp only [smA,smW] at *
 grind
def F29:E:=(.imp Q73 Q19)
theorem G29:Tr F29:=ii3 fun ρ p0 p1 p2=>by
 have hq0:0≤E.I ρ (.fn 9 (.pr Q0 (.int 5))):=Int.natCast_nonneg _
 try simp only [smA,smW] at *
 obtain ⟨a2,ea2,qa2⟩:=cs_i64 ((E.I ρ Q1) + (1))
 try simp only [ea2] at *
 omega
def F30:E:=(.imp (.and (.not Q59) (.fn 103 (.pr Q0 (.pr Q22 Q1)))) (.iff Q22 Q69))
theorem G30:Tr F30:=ii2 fun ρ p0 p1=>by
 have:=fun h1=>@t103_end ρ Q1 Q22 (.fn 9 (.pr Q0 (.int 5))) Q0 p1 h1
 try simp only [smA,smW] at *
 grind
def F31:E:=(.imp (.and Q59 Q4) (.not (.cmp .lss (.fn 9 (.pr Q0 (.int 5))) Q17)))
theorem G31:Tr F31:=ii2 fun ρ p0 p1=>by
 try simp only [smA,smW] at *
 obtain ⟨a2,ea2,qa2⟩:=cs_i64 ((E.I ρ Q1) + (1))
 try simp only [ea2] at *
 omega
def F32:E:=(.imp (.and Q59 (.and Q66 (.and Q28 (.and (.fn 103 (.pr Q0 (.pr Q22 Q1))) Q72)))) (.fn 103 (.pr Q0 (.pr Q22 Q17))))
theorem G32:Tr F32:=ii6 fun ρ p0 p1 p2 p3 p4 p5=>by
 have:=@wrap_add ρ Q1 (.int 1)
 have:=fun h0 hm=>@t103_step ρ Q1 Q22 Q17 Q0 p3 h0 hm Q65 rfl
 try simp only [smA,smW] at *
 grind
def F33:E:=(.imp Q73 (.cmp .lss (.fn 7 (.pr (.fn 9 (.pr Q0 (.int 5))) Q17)) (.fn 7 (.pr (.fn 9 (.pr Q0 (.int 5))) Q1))))
theorem G33:Tr F33:=ii3 fun ρ p0 p1 p2=>by
 have hq0:0≤E.I ρ (.fn 9 (.pr Q0 (.int 5))):=Int.natCast_nonneg _
 try simp only [smA,smW] at *
 obtain ⟨a2,ea2,qa2⟩:=cs_i64 ((E.I ρ Q1) + (1))
 try simp only [ea2] at *
 omega
def F34:E:=(.imp (.and Q59 Q4) (.not (.cmp .lss (.fn 7 (.pr (.fn 9 (.pr Q0 (.int 5))) Q17)) (.int 0))))
theorem G34:Tr F34:=ii2 fun ρ p0 p1=>by
 try simp only [smA,smW] at *
 obtain ⟨a2,ea2,qa2⟩:=cs_i64 ((E.I ρ Q1) + (1))
 try simp only [ea2] at *
 omega
namespace p2
def facts:List E:=[F27,F28,F29,F30,F31,F32,F33,F34]
theorem facts_ok:∀ e∈facts,Tr e:=(ac G27 (ac G28 (ac G29 (ac G30 (ac G31 (ac G32 (ac G33 (ac G34 all_nil))))))))
end p2
theorem spec2_0:NatOk Try.prog (specNat (spIF 65 false)) :=
 spec_of_check good (facts:=p2.facts) p2.facts_ok (anns:=annIF 65 false) (plainAnns_ok _ (by kernel_rfl)) (nats:=natl3) natl3_ok (n:=3000) (by kernel_rfl)
def natl4:List Nat1:=specNat (spIF 65 false)::natl3
theorem natl4_ok:∀ x∈natl4,NatOk Try.prog x:=by
 intro x hx
 rcases List.mem_cons.1 hx with rfl | hx
 ·exact spec2_0
 exact natl3_ok x hx

def F35:E:=(.fn 103 (.pr Q0 (.pr Q74 (.int 0))))
theorem G35:Tr F35:=fun ρ=>by
 unfold F35
 exact t103_zero (by (try simp only [sm_I_int]); omega)
def F36:E:=(.imp (.and Q59 (.and Q81 (.and (.not Q28) Q4))) (.iff Q4 Q84))
theorem G36:Tr F36:=ii4 fun ρ p0 p1 p2 p3=>by
 have:=fun h0 h1=>@t103_fail ρ Q1 Q74 (.fn 9 (.pr Q0 (.int 5))) Q0 h0 h1 Q80 rfl
 try simp only [smA,smW] at *
 grind
def F37:E:=(.imp (.and (.not Q59) (.fn 103 (.pr Q0 (.pr Q74 Q1)))) (.iff Q22 Q84))
theorem G37:Tr F37:=ii2 fun ρ p0 p1=>by
 have:=fun h1=>@t103_end ρ Q1 Q74 (.fn 9 (.pr Q0 (.int 5))) Q0 p1 h1
 try simp only [smA,smW] at *
 grind
def F38:E:=(.imp (.and Q59 (.and Q81 (.and Q28 (.and (.fn 103 (.pr Q0 (.pr Q74 Q1))) Q72)))) (.fn 103 (.pr Q0 (.pr Q74 Q17))))
theorem G38:Tr F38:=ii6 fun ρ p0 p1 p2 p3 p4 p5=>by
 have:=@wrap_add ρ Q1 (.int 1)
 have:=fun h0 hm=>@t103_step ρ Q1 Q74 Q17 Q0 p3 h0 hm Q80 rfl
 try simp only [smA,smW] at *
 grind
namespace p3
def facts:List E:=[F35,F36,F29,F37,F31,F38,F33,F34]
theorem facts_ok:∀ e∈facts,Tr e:=(ac G35 (ac G36 (ac G29 (ac G37 (ac G31 (ac G38 (ac G33 (ac G34 all_nil))))))))
end p3
theorem spec3_0:NatOk Try.prog (specNat (spIF 67 true)) :=
 spec_of_check good (facts:=p3.facts) p3.facts_ok (anns:=annIF 67 true) (plainAnns_ok _ (by kernel_rfl)) (nats:=natl4) natl4_ok (n:=3000) (by kernel_rfl)
def natl5:List Nat1:=specNat (spIF 67 true)::natl4
theorem natl5_ok:∀ x∈natl5,NatOk Try.prog x:=by
 intro x hx
 rcases List.mem_cons.1 hx with rfl | hx
 ·exact spec3_0
 exact natl4_ok x hx

def F39:E:=(.cmp .eql (.fn 131 (.pr Q0 (.pr Q25 (.int 0)))) (.int 0))
theorem G39:Tr F39:=fun ρ=>by
 unfold F39
 have:=@t131_zero ρ Q0 Q25 (.int 0)
 try simp only [smA,smW] at *
 grind
def F40:E:=(.imp (.and Q85 (.and Q86 Q4)) (.iff Q4 (.fn 114 (.pr Q0 Q25))))
theorem G40:Tr F40:=ii3 fun ρ p0 p1 p2=>by
 have:=@t114_nth ρ Q0 Q25 Q1
 try simp only [smA,smW] at *
 grind
def F41:E:=(.imp Q90 Q19)
theorem G41:Tr F41:=ii3 fun ρ p0 p1 p2=>by
 try simp only [smA,smW] at *
 have:=@fn0_nn ρ Q0
 obtain ⟨a5,ea5,qa5⟩:=cs_i64 ((E.I ρ Q1) + (1))
 try simp only [ea5] at *
 omega
def F42:E:=(.imp (.and (.not Q85) Q91) (.iff Q22 (.fn 114 (.pr Q0 Q25))))
theorem G42:Tr F42:=ii2 fun ρ p0 p1=>by
 have:=@t131_end ρ Q0 Q25 Q1
 try simp only [smA,smW] at *
 grind
def F43:E:=(.imp (.and Q85 Q4) (.not (.cmp .lss (.fn 0 Q0) Q17)))
theorem G43:Tr F43:=ii2 fun ρ p0 p1=>by
 try simp only [smA,smW] at *
 obtain ⟨a5,ea5,qa5⟩:=cs_i64 ((E.I ρ Q1) + (1))
 try simp only [ea5] at *
 omega
def F44:E:=(.imp (.and Q85 (.and (.not Q86) (.and Q91 Q89))) (.cmp .eql (.fn 131 (.pr Q0 (.pr Q25 Q17))) (.int 0)))
theorem G44:Tr F44:=ii5 fun ρ p0 p1 p2 p3 p4=>by
 have:=@wrap_add ρ Q1 (.int 1)
 have:=@t131_step ρ Q0 Q25 Q1 Q17
 try simp only [smA,smW] at *
 grind
def F45:E:=(.imp Q90 (.cmp .lss (.fn 7 (.pr (.fn 0 Q0) Q17)) (.fn 7 (.pr (.fn 0 Q0) Q1))))
theorem G45:Tr F45:=ii3 fun ρ p0 p1 p2=>by
 try simp only [smA,smW] at *
 have:=@fn0_nn ρ Q0
 obtain ⟨a5,ea5,qa5⟩:=cs_i64 ((E.I ρ Q1) + (1))
 try simp only [ea5] at *
 omega
def F46:E:=(.imp (.and Q85 Q4) (.not (.cmp .lss (.fn 7 (.pr (.fn 0 Q0) Q17)) (.int 0))))
theorem G46:Tr F46:=ii2 fun ρ p0 p1=>by
 try simp only [smA,smW] at *
 obtain ⟨a5,ea5,qa5⟩:=cs_i64 ((E.I ρ Q1) + (1))
 try simp only [ea5] at *
 omega
namespace p4
def facts:List E:=[F39,F40,F41,F42,F43,F44,F45,F46]
theorem facts_ok:∀ e∈facts,Tr e:=(ac G39 (ac G40 (ac G41 (ac G42 (ac G43 (ac G44 (ac G45 (ac G46 all_nil))))))))
end p4
theorem spec4_0:NatOk Try.prog (specNat (spIx)) :=
 spec_of_check good (facts:=p4.facts) p4.facts_ok (anns:=annIx) (plainAnns_ok _ (by kernel_rfl)) (nats:=natl5) natl5_ok (n:=3000) (by kernel_rfl)
def natl6:List Nat1:=specNat (spIx)::natl5
theorem natl6_ok:∀ x∈natl6,NatOk Try.prog x:=by
 intro x hx
 rcases List.mem_cons.1 hx with rfl | hx
 ·exact spec4_0
 exact natl5_ok x hx

def F47:E:=(.imp (.and Q43 Q92) Q104)
theorem G47:Tr F47:=ii2 fun ρ p0 p1=>by
 have:=@z137 ρ Q0 Q25 Q26 Q27 Q1 Q28 Q45 Q93 Q94
 try simp only [smA,smW] at *
 grind
def F48:E:=(.imp (.and Q43 (.and Q4 Q105)) Q104)
theorem G48:Tr F48:=ii3 fun ρ p0 p1 p2=>by
 have:=@z137 ρ Q0 Q25 Q26 Q27 Q1 Q28 Q45 Q93 Q94
 try simp only [smA,smW] at *
 grind
def F49:E:=(.imp (.and Q43 (.and Q4 (.and Q106 Q107))) Q104)
theorem G49:Tr F49:=ii4 fun ρ p0 p1 p2 p3=>by
 have:=@z137 ρ Q0 Q25 Q26 Q27 Q1 Q28 Q45 Q93 Q94
 try simp only [smA,smW] at *
 grind
def F50:E:=(.imp (.and Q43 (.and Q4 (.and Q106 (.and Q47 Q108)))) Q104)
theorem G50:Tr F50:=ii5 fun ρ p0 p1 p2 p3 p4=>by
 have:=@z137 ρ Q0 Q25 Q26 Q27 Q1 Q28 Q45 Q93 Q94
 try simp only [smA,smW] at *
 grind
def F51:E:=(.imp (.and Q43 (.and Q4 (.and Q106 (.and Q47 (.and Q109 Q110))))) Q104)
theorem G51:Tr F51:=ii6 fun ρ p0 p1 p2 p3 p4 p5=>by
 have:=@z137 ρ Q0 Q25 Q26 Q27 Q1 Q28 Q45 Q93 Q94
 try simp only [smA,smW] at *
 grind
def F52:E:=(.imp (.and Q43 (.and Q4 (.and Q106 (.and Q47 (.and Q109 (.and Q112 Q113)))))) Q104)
theorem G52:Tr F52:=ii7 fun ρ p0 p1 p2 p3 p4 p5 p6=>by
 have:=@z137 ρ Q0 Q25 Q26 Q27 Q1 Q28 Q45 Q93 Q94
 try simp only [smA,smW] at *
 grind
def F53:E:=(.imp (.and Q43 (.and Q4 (.and Q106 (.and Q47 (.and Q109 (.and Q112 (.and (.not Q114) (.and Q115 (.and Q116 (.and Q117 (.and Q119 (.and Q120 (.and (.not Q121) Q133))))))))))))) Q134)
theorem G53:Tr F53:=ii19 fun ρ p0 p1 p2 p3 p4 p5 p6 p7 p8 p9 p10 p11 p12 p13 p14 p15 p16 p17 p18=>by
 have:=@z137 ρ Q0 Q25 Q26 Q27 Q1 Q28 Q45 Q93 Q94
 try simp only [smA,smW] at *
 grind
def F54:E:=(.imp (.and Q43 (.and Q4 (.and Q106 (.and Q47 (.and Q109 (.and Q112 (.and (.not Q114) (.and Q115 (.and Q116 (.and Q117 (.and Q119 (.and Q120 (.and Q121 Q133))))))))))))) Q135)
theorem G54:Tr F54:=ii19 fun ρ p0 p1 p2 p3 p4 p5 p6 p7 p8 p9 p10 p11 p12 p13 p14 p15 p16 p17 p18=>by
 have:=@z137 ρ Q0 Q25 Q26 Q27 Q1 Q28 Q45 Q93 Q94
 try simp only [smA,smW] at *
 grind
def F55:E:=(.imp (.and Q117 (.and Q119 (.not Q120))) Q104)
theorem G55:Tr F55:=ii3 fun ρ p0 p1 p2=>by
 have:=@z137 ρ Q0 Q25 Q26 Q27 Q1 Q28 Q45 Q93 Q94
 try simp only [smA,smW] at *
 grind
def F56:E:=(.imp (.and Q117 Q118) Q104)
theorem G56:Tr F56:=ii2 fun ρ p0 p1=>by
 have:=@z137 ρ Q0 Q25 Q26 Q27 Q1 Q28 Q45 Q93 Q94
 try simp only [smA,smW] at *
 grind
def F57:E:=(.imp (.and Q117 Q127) Q104)
theorem G57:Tr F57:=ii2 fun ρ p0 p1=>by
 have:=@z137 ρ Q0 Q25 Q26 Q27 Q1 Q28 Q45 Q93 Q94
 try simp only [smA,smW] at *
 grind
def F58:E:=(.imp (.cmp .lss Q0 (.int 1)) Q104)
theorem G58:Tr F58:=ii1 fun ρ p0=>by
 have:=@z137 ρ Q0 Q25 Q26 Q27 Q1 Q28 Q45 Q93 Q94
 try simp only [smA,smW] at *
 grind
def F59:E:=(.imp (.and (.not Q114) (.and Q115 (.not Q116))) Q104)
theorem G59:Tr F59:=ii3 fun ρ p0 p1 p2=>by
 have:=@z137 ρ Q0 Q25 Q26 Q27 Q1 Q28 Q45 Q93 Q94
 try simp only [smA,smW] at *
 grind
def F60:E:=(.imp (.and (.not Q114) (.not Q115)) Q104)
theorem G60:Tr F60:=ii2 fun ρ p0 p1=>by
 have:=@z137 ρ Q0 Q25 Q26 Q27 Q1 Q28 Q45 Q93 Q94
 try simp only [smA,smW] at *
 grind
def F61:E:=(.imp (.and Q43 (.and Q4 (.and Q106 (.and Q47 (.and Q109 (.and Q112 (.and Q114 (.and Q117 (.and (.not Q121) Q137))))))))) Q134)
theorem G61:Tr F61:=ii16 fun ρ p0 p1 p2 p3 p4 p5 p6 p7 p8 p9 p10 p11 p12 p13 p14 p15=>by
 have:=@z137 ρ Q0 Q25 Q26 Q27 Q1 Q28 Q45 Q93 Q94
 try simp only [smA,smW] at *
 grind
def F62:E:=(.imp (.and Q43 (.and Q4 (.and Q106 (.and Q47 (.and Q109 (.and Q112 (.and Q114 (.and Q117 (.and Q121 Q137))))))))) Q135)
theorem G62:Tr F62:=ii16 fun ρ p0 p1 p2 p3 p4 p5 p6 p7 p8 p9 p10 p11 p12 p13 p14 p15=>by
 have:=@z137 ρ Q0 Q25 Q26 Q27 Q1 Q28 Q45 Q93 Q94
 try simp only [smA,smW] at *
 grind
def F63:E:=(.imp (.and Q43 (.and Q4 (.and Q106 (.and Q47 (.and Q109 Q111))))) Q104)
theorem G63:Tr F63:=ii6 fun ρ p0 p1 p2 p3 p4 p5=>by
 have:=@z137 ρ Q0 Q25 Q26 Q27 Q1 Q28 Q45 Q93 Q94
 try simp only [smA,smW] at *
 grind
def F64:E:=(.imp (.and Q43 (.and Q4 (.and Q106 (.and Q47 (.cmp .lss Q93 (.int 0)))))) Q104)
theorem G64:Tr F64:=ii5 fun ρ p0 p1 p2 p3 p4=>by
 have:=@z137 ρ Q0 Q25 Q26 Q27 Q1 Q28 Q45 Q93 Q94
 try simp only [smA,smW] at *
 grind
def F65:E:=(.imp (.and Q43 (.and Q4 (.and Q106 Q46))) Q104)
theorem G65:Tr F65:=ii4 fun ρ p0 p1 p2 p3=>by
 have:=@z137 ρ Q0 Q25 Q26 Q27 Q1 Q28 Q45 Q93 Q94
 try simp only [smA,smW] at *
 grind
def F66:E:=(.imp (.and Q43 (.and Q4 (.cmp .lss Q28 (.int 0)))) Q104)
theorem G66:Tr F66:=ii3 fun ρ p0 p1 p2=>by
 have:=@z137 ρ Q0 Q25 Q26 Q27 Q1 Q28 Q45 Q93 Q94
 try simp only [smA,smW] at *
 grind
def F67:E:=(.imp (.and Q43 (.cmp .lss Q1 (.int 0))) Q104)
theorem G67:Tr F67:=ii2 fun ρ p0 p1=>by
 have:=@z137 ρ Q0 Q25 Q26 Q27 Q1 Q28 Q45 Q93 Q94
 try simp only [smA,smW] at *
 grind
def F68:E:=(.imp Q42 Q104)
theorem G68:Tr F68:=ii1 fun ρ p0=>by
 have:=@z137 ρ Q0 Q25 Q26 Q27 Q1 Q28 Q45 Q93 Q94
 try simp only [smA,smW] at *
 grind
namespace p5
def facts:List E:=[F47,F48,F49,F50,F51,F52,F53,F54,F55,F56,F57,F58,F59,F60,F61,F62,F63,F64,F65,F66,F67,F68]
theorem facts_ok:∀ e∈facts,Tr e:=(ac G47 (ac G48 (ac G49 (ac G50 (ac G51 (ac G52 (ac G53 (ac G54 (ac G55 (ac G56 (ac G57 (ac G58 (ac G59 (ac G60 (ac G61 (ac G62 (ac G63 (ac G64 (ac G65 (ac G66 (ac G67 (ac G68 all_nil))))))))))))))))))))))
end p5
theorem spec5_0:NatOk Try.prog (specNat (spOV 105)) :=
 spec_of_check good (facts:=p5.facts) p5.facts_ok (anns:=[]) (plainAnns_ok _ (by kernel_rfl)) (nats:=natl6) natl6_ok (n:=3000) (by kernel_rfl)
def natl7:List Nat1:=specNat (spOV 105)::natl6
theorem natl7_ok:∀ x∈natl7,NatOk Try.prog x:=by
 intro x hx
 rcases List.mem_cons.1 hx with rfl | hx
 ·exact spec5_0
 exact natl6_ok x hx

def F69:E:=(.fn 104 (.pr (.fn 10 (.int 0)) (.pr Q0 (.pr (.int 0) Q138))))
theorem G69:Tr F69:=fun ρ=>by
 unfold F69
 exact t104_start (by (try simp only [sm_I_int]); omega) (by (try simp only [sm_I_int]); omega) (by (try simp only [sm_I_int]); omega)
def F70:E:=(.imp Q139 (.not (.cmp .lss (.int 200) (.fn 0 (.fn 1 (.pr Q0 (.int 6)))))))
theorem G70:Tr F70:=ii1 fun ρ p0=>by
 have:=t117 p0
 try simp only [smA,smW] at *
 have:=@fn0_nn ρ (.fn 1 (.pr Q0 (.int 6)))
 omega
def F71:E:=(.imp Q139 (.not (.cmp .lss (.int 200) (.fn 0 (.fn 1 (.pr Q0 (.int 7)))))))
theorem G71:Tr F71:=ii1 fun ρ p0=>by
 have:=t117 p0
 try simp only [smA,smW] at *
 have:=@fn0_nn ρ (.fn 1 (.pr Q0 (.int 7)))
 omega
def F72:E:=(.imp Q139 (.not (.cmp .lss (.int 200) (.fn 0 (.fn 1 (.pr Q0 (.int 8)))))))
theorem G72:Tr F72:=ii1 fun ρ p0=>by
 have:=t117 p0
 try simp only [smA,smW] at *
 have:=@fn0_nn ρ (.fn 1 (.pr Q0 (.int 8)))
 omega
def F73:E:=(.imp Q139 (.not (.cmp .lss (.int 200) (.fn 0 (.fn 1 (.pr Q0 (.int 9)))))))
theorem G73:Tr F73:=ii1 fun ρ p0=>by
 have:=t117 p0
 try simp only [smA,smW] at *
 have:=@fn0_nn ρ (.fn 1 (.pr Q0 (.int 9)))
 omega
def F74:E:=(.imp Q140 (.not (.cmp .lss Q141 (.int 0))))
theorem G74:Tr F74:=ii1 fun ρ p0=>by
 try simp only [smA,smW] at *
 obtain ⟨a2,ea2,qa2⟩:=cs_i64 ((E.I ρ Q94) + (1))
 try simp only [ea2] at *
 omega
def F75:E:=(.imp Q139 (.not (.cmp .lss (.int 200) (.fn 0 (.fn 1 (.pr Q0 (.int 20)))))))
theorem G75:Tr F75:=ii1 fun ρ p0=>by
 have:=t117 p0
 try simp only [smA,smW] at *
 have:=@fn0_nn ρ (.fn 1 (.pr Q0 (.int 20)))
 omega
def F76:E:=(.imp Q139 (.not (.cmp .lss (.int 200) (.fn 0 (.fn 1 (.pr Q0 (.int 21)))))))
theorem G76:Tr F76:=ii1 fun ρ p0=>by
 have:=t117 p0
 try simp only [smA,smW] at *
 have:=@fn0_nn ρ (.fn 1 (.pr Q0 (.int 21)))
 omega
def F77:E:=(.imp Q139 (.not (.cmp .lss (.int 200) (.fn 0 (.fn 1 (.pr Q0 (.int 22)))))))
theorem G77:Tr F77:=ii1 fun ρ p0=>by
 have:=t117 p0
 try simp only [smA,smW] at *
 have:=@fn0_nn ρ (.fn 1 (.pr Q0 (.int 22)))
 omega
def F78:E:=(.imp Q139 (.not (.cmp .lss (.int 200) (.fn 0 (.fn 1 (.pr Q0 (.int 23)))))))
theorem G78:Tr F78:=ii1 fun ρ p0=>by
 have:=t117 p0
 try simp only [smA,smW] at *
 have:=@fn0_nn ρ (.fn 1 (.pr Q0 (.int 23)))
 omega
def F79:E:=(.imp Q142 (.not (.cmp .lss Q141 (.int 0))))
theorem G79:Tr F79:=ii1 fun ρ p0=>by
 try simp only [smA,smW] at *
 obtain ⟨a2,ea2,qa2⟩:=cs_i64 ((E.I ρ Q94) + (1))
 try simp only [ea2] at *
 omega
def F80:E:=(.imp Q139 (.not (.cmp .lss (.int 200) (.fn 9 (.pr (.fn 1 (.pr Q0 (.int 29))) (.int 5))))))
theorem G80:Tr F80:=ii1 fun ρ p0=>by
 have:=t117 p0
 try simp only [smA,smW] at *
 omega
def F81:E:=(.imp (.and Q144 Q149) (.fn 109 (.pr (.fn 1 (.pr Q0 (.int 6))) Q150)))
theorem G81:Tr F81:=ii7 fun ρ p0 p1 p2 p3 p4 p5 p6=>by
 obtain ⟨g0,g1⟩:E.I ρ Q94=(0)∧E.I ρ Q143=(0):=by
  have:=t117 p1
  have:=t117 p2
  have:=t117 p4
  have:=t117 p5
  have:=t117 p6
  try simp only [smA,smW] at *
  omega
 exact t109 0 0 6 (by decide) (by decide) g0 g1
def F82:E:=(.imp (.and Q151 Q149) (.fn 109 (.pr (.fn 1 (.pr Q0 (.int 7))) Q150)))
theorem G82:Tr F82:=ii7 fun ρ p0 p1 p2 p3 p4 p5 p6=>by
 obtain ⟨g0,g1⟩:E.I ρ Q94=(0)∧E.I ρ Q143=(1):=by
  have:=t117 p1
  have:=t117 p2
  have:=t117 p4
  have:=t117 p5
  have:=t117 p6
  try simp only [smA,smW] at *
  omega
 exact t109 0 1 7 (by decide) (by decide) g0 g1
def F83:E:=(.imp (.and Q152 Q149) (.fn 109 (.pr (.fn 1 (.pr Q0 (.int 8))) Q150)))
theorem G83:Tr F83:=ii7 fun ρ p0 p1 p2 p3 p4 p5 p6=>by
 obtain ⟨g0,g1⟩:E.I ρ Q94=(0)∧E.I ρ Q143=(2):=by
  have:=t117 p1
  have:=t117 p2
  have:=t117 p4
  have:=t117 p5
  have:=t117 p6
  try simp only [smA,smW] at *
  omega
 exact t109 0 2 8 (by decide) (by decide) g0 g1
def F84:E:=(.imp (.and (.not Q144) (.and (.not Q151) (.and (.not Q152) (.and Q139 (.and Q139 (.and Q153 (.and Q155 Q147))))))) (.fn 109 (.pr (.fn 1 (.pr Q0 (.int 9))) Q150)))
theorem G84:Tr F84:=ii11 fun ρ p0 p1 p2 p3 p4 p5 p6 p7 p8 p9 p10=>by
 obtain ⟨g0,g1⟩:E.I ρ Q94=(0)∧E.I ρ Q143=(3):=by
  have:=t117 p3
  have:=t117 p4
  have:=t117 p8
  have:=t117 p9
  have:=t117 p10
  try simp only [smA,smW] at *
  omega
 exact t109 0 3 9 (by decide) (by decide) g0 g1
def F85:E:=(.imp Q140 (.not (.cmp .lss (.int 2) Q141)))
theorem G85:Tr F85:=ii1 fun ρ p0=>by
 try simp only [smA,smW] at *
 obtain ⟨a2,ea2,qa2⟩:=cs_i64 ((E.I ρ Q94) + (1))
 try simp only [ea2] at *
 omega
def F86:E:=(.imp (.and Q142 (.and Q144 Q157)) (.fn 109 (.pr (.fn 1 (.pr Q0 (.int 20))) Q150)))
theorem G86:Tr F86:=ii7 fun ρ p0 p1 p2 p3 p4 p5 p6=>by
 obtain ⟨g0,g1⟩:E.I ρ Q94=(1)∧E.I ρ Q143=(0):=by
  have:=t117 p2
  have:=t117 p3
  have:=t117 p4
  have:=t117 p5
  have:=t117 p6
  try simp only [smA,smW] at *
  omega
 exact t109 1 0 20 (by decide) (by decide) g0 g1
def F87:E:=(.imp (.and Q142 (.and Q151 Q157)) (.fn 109 (.pr (.fn 1 (.pr Q0 (.int 21))) Q150)))
theorem G87:Tr F87:=ii7 fun ρ p0 p1 p2 p3 p4 p5 p6=>by
 obtain ⟨g0,g1⟩:E.I ρ Q94=(1)∧E.I ρ Q143=(1):=by
  have:=t117 p2
  have:=t117 p3
  have:=t117 p4
  have:=t117 p5
  have:=t117 p6
  try simp only [smA,smW] at *
  omega
 exact t109 1 1 21 (by decide) (by decide) g0 g1
def F88:E:=(.imp (.and Q142 (.and Q152 Q157)) (.fn 109 (.pr (.fn 1 (.pr Q0 (.int 22))) Q150)))
theorem G88:Tr F88:=ii7 fun ρ p0 p1 p2 p3 p4 p5 p6=>by
 obtain ⟨g0,g1⟩:E.I ρ Q94=(1)∧E.I ρ Q143=(2):=by
  have:=t117 p2
  have:=t117 p3
  have:=t117 p4
  have:=t117 p5
  have:=t117 p6
  try simp only [smA,smW] at *
  omega
 exact t109 1 2 22 (by decide) (by decide) g0 g1
def F89:E:=(.imp (.and Q142 (.and (.not Q144) (.and (.not Q151) (.and (.not Q152) (.and Q139 (.and Q139 Q159)))))) (.fn 109 (.pr (.fn 1 (.pr Q0 (.int 23))) Q150)))
theorem G89:Tr F89:=ii11 fun ρ p0 p1 p2 p3 p4 p5 p6 p7 p8 p9 p10=>by
 obtain ⟨g0,g1⟩:E.I ρ Q94=(1)∧E.I ρ Q143=(3):=by
  have:=t117 p4
  have:=t117 p5
  have:=t117 p8
  have:=t117 p9
  have:=t117 p10
  try simp only [smA,smW] at *
  omega
 exact t109 1 3 23 (by decide) (by decide) g0 g1
def F90:E:=(.imp Q142 (.not (.cmp .lss (.int 2) Q141)))
theorem G90:Tr F90:=ii1 fun ρ p0=>by
 try simp only [smA,smW] at *
 obtain ⟨a2,ea2,qa2⟩:=cs_i64 ((E.I ρ Q94) + (1))
 try simp only [ea2] at *
 omega
def F91:E:=(.imp (.and (.not (.cmp .lss Q94 (.int 2))) (.and Q139 (.and Q139 (.and Q139 (.and Q139 (.and (.fn 104 (.pr (.var 9) (.pr Q0 (.pr Q94 Q138)))) (.and (.not (.cmp .lss (.int 2) Q94)) Q139))))))) (.fn 105 (.pr (.var 9) (.pr Q0 (.int 0)))))
theorem G91:Tr F91:=ii8 fun ρ p0 p1 p2 p3 p4 p5 p6 p7=>by
 have g0:E.I ρ Q94=(2):=by
  have:=t117 p1
  have:=t117 p2
  have:=t117 p3
  have:=t117 p4
  have:=t117 p7
  try simp only [smA,smW] at *
  omega
 have g1:E.I ρ (.int 0)=E.I ρ (.int 0):=rfl
 have g2:E.I ρ (.int 0)=E.I ρ (.int 0):=rfl
 have g3:E.I ρ (.int 0)=E.I ρ (.int 0):=rfl
 exact t105_start p5 g0 g1 g2 g3
def F92:E:=(.imp (.and Q162 (.and (.fn 33 (.pr Q163 (.fn 1 (.pr Q161 Q160)))) (.and Q164 (.and Q165 Q170)))) Q171)
theorem G92:Tr F92:=ii8 fun ρ p0 p1 p2 p3 p4 p5 p6 p7=>by
 have:=@t104_put ρ Q160 Q94 Q143 (.fn 6 (.pr Q160 (.int 1))) Q163 Q0 Q161 p2 p3
 try simp only [smA,smW] at *
 grind
def F93:E:=(.imp Q175 (.not (.cmp .lss Q176 (.int 0))))
theorem G93:Tr F93:=ii3 fun ρ p0 p1 p2=>by
 try simp only [smA,smW] at *
 have:=@fn0_nn ρ Q161
 obtain ⟨a4,ea4,qa4⟩:=cs_i64 ((E.I ρ Q160) + (1))
 try simp only [ea4] at *
 omega
def F94:E:=(.imp Q177 (.not (.cmp .lss Q178 (.int 0))))
theorem G94:Tr F94:=ii2 fun ρ p0 p1=>by
 try simp only [smA,smW] at *
 obtain ⟨a4,ea4,qa4⟩:=cs_i64 ((E.I ρ Q143) + (1))
 try simp only [ea4] at *
 omega
def F95:E:=(.imp (.and Q142 (.and Q162 (.and (.fn 33 (.pr Q163 (.fn 1 (.pr Q161 Q160)))) (.and Q164 (.and Q165 Q179))))) Q171)
theorem G95:Tr F95:=ii8 fun ρ p0 p1 p2 p3 p4 p5 p6 p7=>by
 have:=@t104_put ρ Q160 Q94 Q143 (.fn 6 (.pr Q160 (.int 1))) Q163 Q0 Q161 p3 p4
 try simp only [smA,smW] at *
 grind
def F96:E:=(.imp (.and (.not Q153) (.and Q139 (.and Q139 (.and Q140 Q185)))) Q187)
theorem G96:Tr F96:=ii9 fun ρ p0 p1 p2 p3 p4 p5 p6 p7 p8=>by
 obtain ⟨g0,g1,g2,g3,g4⟩:(0)≤E.I ρ Q94∧(0)≤E.I ρ Q143∧(0)≤E.I ρ Q141∧(0)≤(0)∧E.I ρ (.fn 6 (.pr (.fn 8 (.pr Q141 (.int 4))) (.int 0)))=E.I ρ (.fn 6 (.pr (.fn 8 (.pr Q94 (.int 4))) Q143)):=by
  have:=t117 p1
  have:=t117 p2
  have:=t117 p4
  have:=t117 p7
  have:=t117 p8
  try simp only [smA,smW] at *
  obtain ⟨a2,ea2,qa2⟩:=cs_i64 ((E.I ρ Q94) + (1))
  try simp only [ea2] at *
  omega
 have g5:E.I ρ (.int 0)=E.I ρ (.int 0):=rfl
 exact t104_eq p5 (by (try simp only [sm_I_int]); omega) (by (try simp only [sm_I_int]); omega) (by (try simp only [sm_I_int]); omega) (by (try simp only [sm_I_int]); omega) g4 g5
def F97:E:=(.imp (.and Q142 (.and (.not Q153) (.and Q139 (.and Q139 Q185)))) Q187)
theorem G97:Tr F97:=ii9 fun ρ p0 p1 p2 p3 p4 p5 p6 p7 p8=>by
 obtain ⟨g0,g1,g2,g3,g4⟩:(0)≤E.I ρ Q94∧(0)≤E.I ρ Q143∧(0)≤E.I ρ Q141∧(0)≤(0)∧E.I ρ (.fn 6 (.pr (.fn 8 (.pr Q141 (.int 4))) (.int 0)))=E.I ρ (.fn 6 (.pr (.fn 8 (.pr Q94 (.int 4))) Q143)):=by
  have:=t117 p2
  have:=t117 p3
  have:=t117 p4
  have:=t117 p7
  have:=t117 p8
  try simp only [smA,smW] at *
  obtain ⟨a2,ea2,qa2⟩:=cs_i64 ((E.I ρ Q94) + (1))
  try simp only [ea2] at *
  omega
 have g5:E.I ρ (.int 0)=E.I ρ (.int 0):=rfl
 exact t104_eq p5 (by (try simp only [sm_I_int]); omega) (by (try simp only [sm_I_int]); omega) (by (try simp only [sm_I_int]); omega) (by (try simp only [sm_I_int]); omega) g4 g5
def F98:E:=(.fn 106 (.pr (.fn 10 (.int 0)) (.pr Q0 (.int 0))))
theorem G98:Tr F98:=fun ρ=>by
 unfold F98
 have g3:E.I ρ (.int 0)=E.I ρ (.int 0):=rfl
 exact t106_start g3
def F99:E:=(.imp Q188 (.not (.cmp .lss (.fn 0 Q161) Q176)))
theorem G99:Tr F99:=ii2 fun ρ p0 p1=>by
 try simp only [smA,smW] at *
 obtain ⟨a4,ea4,qa4⟩:=cs_i64 ((E.I ρ Q160) + (1))
 try simp only [ea4] at *
 omega
def F100:E:=(.imp Q177 (.not (.cmp .lss (.int 4) Q178)))
theorem G100:Tr F100:=ii2 fun ρ p0 p1=>by
 try simp only [smA,smW] at *
 obtain ⟨a4,ea4,qa4⟩:=cs_i64 ((E.I ρ Q143) + (1))
 try simp only [ea4] at *
 omega
def F101:E:=(.imp Q140 Q189)
theorem G101:Tr F101:=ii1 fun ρ p0=>by
 try simp only [smA,smW] at *
 obtain ⟨a2,ea2,qa2⟩:=cs_i64 ((E.I ρ Q94) + (1))
 try simp only [ea2] at *
 omega
def F102:E:=(.imp Q142 Q189)
theorem G102:Tr F102:=ii1 fun ρ p0=>by
 try simp only [smA,smW] at *
 obtain ⟨a2,ea2,qa2⟩:=cs_i64 ((E.I ρ Q94) + (1))
 try simp only [ea2] at *
 omega
def F103:E:=(.imp (.and Q191 (.and Q192 (.and (.fn 33 (.pr Q193 (.fn 1 (.pr (.fn 1 (.pr Q0 (.int 29))) (.fn 6 (.pr (.fn 8 (.pr Q190 (.int 5))) (.int 1))))))) Q203))) Q171)
theorem G103:Tr F103:=ii6 fun ρ p0 p1 p2 p3 p4 p5=>by
 have:=fun a b hn=>@t_stk ρ (.fn 6 (.pr Q190 (.int 1))) Q193 Q0 Q194 Q190 p4 p3 a b hn (.fn 1 (.pr (.fn 1 (.pr Q0 (.int 29))) (.fn 6 (.pr (.fn 8 (.pr Q190 (.int 5))) (.int 0))))) (.fn 1 (.pr (.fn 1 (.pr Q0 (.int 29))) (.fn 6 (.pr (.fn 8 (.pr Q190 (.int 5))) (.int 1))))) (.fn 1 (.pr (.fn 1 (.pr Q0 (.int 29))) (.fn 6 (.pr (.fn 8 (.pr Q190 (.int 5))) (.int 2))))) (.fn 1 (.pr (.fn 1 (.pr Q0 (.int 29))) (.fn 6 (.pr (.fn 8 (.pr Q190 (.int 5))) (.int 3))))) rfl rfl rfl rfl
 try simp only [smA,smW] at *
 grind
def F104:E:=(.imp Q204 (.not (.cmp .lss Q205 (.int 0))))
theorem G104:Tr F104:=ii3 fun ρ p0 p1 p2=>by
 have:=t117 p0
 try simp only [smA,smW] at *
 obtain ⟨a3,ea3,qa3⟩:=cs_i64 ((E.I ρ Q190) + (1))
 try simp only [ea3] at *
 omega
def F105:E:=(.imp Q139 (.not (.cmp .lss (.int 120) (.fn 9 (.pr (.fn 1 (.pr Q0 (.int 0))) (.int 12))))))
theorem G105:Tr F105:=ii1 fun ρ p0=>by
 have:=t117 p0
 try simp only [smA,smW] at *
 omega
def F106:E:=(.imp (.and Q162 (.and Q206 (.and Q164 (.and Q165 (.and Q173 Q170))))) Q208)
theorem G106:Tr F106:=ii9 fun ρ p0 p1 p2 p3 p4 p5 p6 p7 p8=>by
 have:=@wrap_add ρ Q160 (.int 1)
 have:=@t104_put ρ Q160 Q94 Q143 Q176 Q163 Q0 Q161 p2 p3
 try simp only [smA,smW] at *
 grind
def F107:E:=(.imp (.and (.not Q162) (.and Q139 (.and Q139 (.and Q164 (.and Q165 (.and (.not (.cmp .lss (.fn 0 Q161) Q160)) Q159)))))) (.fn 104 (.pr Q163 (.pr Q0 (.pr Q94 (.pr Q178 (.int 0)))))))
theorem G107:Tr F107:=ii11 fun ρ p0 p1 p2 p3 p4 p5 p6 p7 p8 p9 p10=>by
 obtain ⟨g0,g1,g2⟩:(0)≤E.I ρ Q143∧E.I ρ Q160=E.I ρ (.fn 0 Q161)∧E.I ρ Q178=E.I ρ (.fn 6 (.pr Q143 (.int 1))):=by
  have:=t117 p1
  have:=t117 p2
  have:=t117 p8
  have:=t117 p9
  have:=t117 p10
  try simp only [smA,smW] at *
  have:=@fn0_nn ρ Q161
  obtain ⟨a4,ea4,qa4⟩:=cs_i64 ((E.I ρ Q143) + (1))
  try simp only [ea4] at *
  omega
 have g3:E.I ρ (.int 0)=E.I ρ (.int 0):=rfl
 exact t104_next p3 p4 (by (try simp only [sm_I_int]); omega) g1 g2 g3
def F108:E:=(.imp (.and Q142 (.and Q162 (.and Q206 (.and Q164 (.and Q165 (.and Q173 Q179)))))) Q208)
theorem G108:Tr F108:=ii9 fun ρ p0 p1 p2 p3 p4 p5 p6 p7 p8=>by
 have:=@wrap_add ρ Q160 (.int 1)
 have:=@t104_put ρ Q160 Q94 Q143 Q176 Q163 Q0 Q161 p3 p4
 try simp only [smA,smW] at *
 grind
def F109:E:=(.imp Q140 Q210)
theorem G109:Tr F109:=ii1 fun ρ p0=>by
 try simp only [smA,smW] at *
 obtain ⟨a2,ea2,qa2⟩:=cs_i64 ((E.I ρ Q94) + (1))
 try simp only [ea2] at *
 omega
def F110:E:=(.imp Q142 Q210)
theorem G110:Tr F110:=ii1 fun ρ p0=>by
 try simp only [smA,smW] at *
 obtain ⟨a2,ea2,qa2⟩:=cs_i64 ((E.I ρ Q94) + (1))
 try simp only [ea2] at *
 omega
def F111:E:=(.imp Q204 (.not (.cmp .lss (.fn 9 (.pr (.fn 1 (.pr Q0 (.int 29))) (.int 5))) Q205)))
theorem G111:Tr F111:=ii3 fun ρ p0 p1 p2=>by
 have:=t117 p0
 try simp only [smA,smW] at *
 obtain ⟨a3,ea3,qa3⟩:=cs_i64 ((E.I ρ Q190) + (1))
 try simp only [ea3] at *
 omega
def F112:E:=(.imp (.and (.not Q191) (.and Q139 (.and Q199 Q213))) (.fn 105 (.pr Q193 Q214)))
theorem G112:Tr F112:=ii8 fun ρ p0 p1 p2 p3 p4 p5 p6 p7=>by
 have g0:E.I ρ (.fn 9 (.pr (.fn 1 (.pr Q0 (.int 29))) (.int 5)))=E.I ρ Q190:=by
  have hz1:=t117 p1
  have hz8:=t117 p4
  have hz10:=t117 p5
  have hz12:=t117 p6
  have hz14:=t117 p7
  have hq0:0≤E.I ρ (.fn 9 (.pr (.fn 1 (.pr Q0 (.int 29))) (.int 5))):=Int.natCast_nonneg _
  try simp only [smA,smW] at *
  omega
 exact t105_eq p2 g0
def F113:E:=(.imp Q175 (.cmp .lss (.fn 7 (.pr (.fn 0 Q161) Q176)) (.fn 7 (.pr (.fn 0 Q161) Q160))))
theorem G113:Tr F113:=ii3 fun ρ p0 p1 p2=>by
 try simp only [smA,smW] at *
 have:=@fn0_nn ρ Q161
 obtain ⟨a4,ea4,qa4⟩:=cs_i64 ((E.I ρ Q160) + (1))
 try simp only [ea4] at *
 omega
def F114:E:=(.imp Q177 (.cmp .lss (.fn 7 (.pr (.int 4) Q178)) (.fn 7 (.pr (.int 4) Q143))))
theorem G114:Tr F114:=ii2 fun ρ p0 p1=>by
 try simp only [smA,smW] at *
 obtain ⟨a4,ea4,qa4⟩:=cs_i64 ((E.I ρ Q143) + (1))
 try simp only [ea4] at *
 omega
def F115:E:=(.imp Q219 (.fn 105 (.pr (.fn 34 (.pr Q193 (.pr (.fn 1 (.pr (.fn 1 (.pr Q0 (.int 29))) (.fn 6 (.pr (.fn 8 (.pr Q190 (.int 5))) (.int 1))))) (.fn 1 (.pr (.fn 1 (.pr Q0 (.int 29))) (.fn 6 (.pr (.fn 8 (.pr Q190 (.int 5))) (.int 0)))))))) (.pr Q0 Q205))))
theorem G115:Tr F115:=ii7 fun ρ p0 p1 p2 p3 p4 p5 p6=>by
 have:=t117 p3
 have:=@wrap_add ρ Q190 (.int 1)
 have:=fun a b hn=>@t_stk ρ Q205 Q193 Q0 Q194 Q190 p5 p4 a b hn (.fn 1 (.pr (.fn 1 (.pr Q0 (.int 29))) (.fn 6 (.pr (.fn 8 (.pr Q190 (.int 5))) (.int 0))))) (.fn 1 (.pr (.fn 1 (.pr Q0 (.int 29))) (.fn 6 (.pr (.fn 8 (.pr Q190 (.int 5))) (.int 1))))) (.fn 1 (.pr (.fn 1 (.pr Q0 (.int 29))) (.fn 6 (.pr (.fn 8 (.pr Q190 (.int 5))) (.int 2))))) (.fn 1 (.pr (.fn 1 (.pr Q0 (.int 29))) (.fn 6 (.pr (.fn 8 (.pr Q190 (.int 5))) (.int 3))))) rfl rfl rfl rfl
 try simp only [smA,smW] at *
 grind
def F116:E:=(.imp Q221 (.fn 105 (.pr Q193 (.pr Q0 Q205))))
theorem G116:Tr F116:=ii6 fun ρ p0 p1 p2 p3 p4 p5=>by
 have:=t117 p2
 have:=@wrap_add ρ Q190 (.int 1)
 have:=fun a b hn=>@t_stk ρ Q205 Q193 Q0 Q194 Q190 p4 p3 a b hn (.fn 1 (.pr (.fn 1 (.pr Q0 (.int 29))) (.fn 6 (.pr (.fn 8 (.pr Q190 (.int 5))) (.int 0))))) (.fn 1 (.pr (.fn 1 (.pr Q0 (.int 29))) (.fn 6 (.pr (.fn 8 (.pr Q190 (.int 5))) (.int 1))))) (.fn 1 (.pr (.fn 1 (.pr Q0 (.int 29))) (.fn 6 (.pr (.fn 8 (.pr Q190 (.int 5))) (.int 2))))) (.fn 1 (.pr (.fn 1 (.pr Q0 (.int 29))) (.fn 6 (.pr (.fn 8 (.pr Q190 (.int 5))) (.int 3))))) rfl rfl rfl rfl
 try simp only [smA,smW] at *
 grind
def F117:E:=(.imp (.and (.not Q191) (.and Q139 (.and Q197 Q213))) (.fn 106 (.pr Q194 Q214)))
theorem G117:Tr F117:=ii8 fun ρ p0 p1 p2 p3 p4 p5 p6 p7=>by
 have g0:E.I ρ (.fn 9 (.pr (.fn 1 (.pr Q0 (.int 29))) (.int 5)))=E.I ρ Q190:=by
  have hz1:=t117 p1
  have hz8:=t117 p4
  have hz10:=t117 p5
  have hz12:=t117 p6
  have hz14:=t117 p7
  have hq0:0≤E.I ρ (.fn 9 (.pr (.fn 1 (.pr Q0 (.int 29))) (.int 5))):=Int.natCast_nonneg _
  try simp only [smA,smW] at *
  omega
 exact t106_eq p2 g0
def F118:E:=(.imp Q188 (.not (.cmp .lss (.fn 7 (.pr (.fn 0 Q161) Q176)) (.int 0))))
theorem G118:Tr F118:=ii2 fun ρ p0 p1=>by
 try simp only [smA,smW] at *
 obtain ⟨a4,ea4,qa4⟩:=cs_i64 ((E.I ρ Q160) + (1))
 try simp only [ea4] at *
 omega
def F119:E:=(.imp Q177 (.not (.cmp .lss (.fn 7 (.pr (.int 4) Q178)) (.int 0))))
theorem G119:Tr F119:=ii2 fun ρ p0 p1=>by
 try simp only [smA,smW] at *
 obtain ⟨a4,ea4,qa4⟩:=cs_i64 ((E.I ρ Q143) + (1))
 try simp only [ea4] at *
 omega
def F120:E:=(.imp Q219 (.fn 106 (.pr (.fn 34 (.pr Q194 (.pr (.fn 1 (.pr (.fn 1 (.pr Q0 (.int 29))) (.fn 6 (.pr (.fn 8 (.pr Q190 (.int 5))) (.int 1))))) (.fn 1 (.pr (.fn 1 (.pr Q0 (.int 29))) (.fn 6 (.pr (.fn 8 (.pr Q190 (.int 5))) (.int 2)))))))) (.pr Q0 Q205))))
theorem G120:Tr F120:=ii7 fun ρ p0 p1 p2 p3 p4 p5 p6=>by
 have:=t117 p3
 have:=@wrap_add ρ Q190 (.int 1)
 have:=fun a b hn=>@t_stk ρ Q205 Q193 Q0 Q194 Q190 p5 p4 a b hn (.fn 1 (.pr (.fn 1 (.pr Q0 (.int 29))) (.fn 6 (.pr (.fn 8 (.pr Q190 (.int 5))) (.int 0))))) (.fn 1 (.pr (.fn 1 (.pr Q0 (.int 29))) (.fn 6 (.pr (.fn 8 (.pr Q190 (.int 5))) (.int 1))))) (.fn 1 (.pr (.fn 1 (.pr Q0 (.int 29))) (.fn 6 (.pr (.fn 8 (.pr Q190 (.int 5))) (.int 2))))) (.fn 1 (.pr (.fn 1 (.pr Q0 (.int 29))) (.fn 6 (.pr (.fn 8 (.pr Q190 (.int 5))) (.int 3))))) rfl rfl rfl rfl
 try simp only [smA,smW] at *
 grind
def F121:E:=(.imp Q221 (.fn 106 (.pr Q194 (.pr Q0 Q205))))
theorem G121:Tr F121:=ii6 fun ρ p0 p1 p2 p3 p4 p5=>by
 have:=t117 p2
 have:=@wrap_add ρ Q190 (.int 1)
 have:=fun a b hn=>@t_stk ρ Q205 Q193 Q0 Q194 Q190 p4 p3 a b hn (.fn 1 (.pr (.fn 1 (.pr Q0 (.int 29))) (.fn 6 (.pr (.fn 8 (.pr Q190 (.int 5))) (.int 0))))) (.fn 1 (.pr (.fn 1 (.pr Q0 (.int 29))) (.fn 6 (.pr (.fn 8 (.pr Q190 (.int 5))) (.int 1))))) (.fn 1 (.pr (.fn 1 (.pr Q0 (.int 29))) (.fn 6 (.pr (.fn 8 (.pr Q190 (.int 5))) (.int 2))))) (.fn 1 (.pr (.fn 1 (.pr Q0 (.int 29))) (.fn 6 (.pr (.fn 8 (.pr Q190 (.int 5))) (.int 3))))) rfl rfl rfl rfl
 try simp only [smA,smW] at *
 grind
def F122:E:=(.fn 107 (.pr Q0 (.int 0)))
theorem G122:Tr F122:=fun ρ=>by
 unfold F122
 exact t107_zero (by (try simp only [sm_I_int]); omega)
def F123:E:=(.imp Q204 (.cmp .lss (.fn 7 (.pr (.fn 9 (.pr (.fn 1 (.pr Q0 (.int 29))) (.int 5))) Q205)) (.fn 7 (.pr (.fn 9 (.pr (.fn 1 (.pr Q0 (.int 29))) (.int 5))) Q190))))
theorem G123:Tr F123:=ii3 fun ρ p0 p1 p2=>by
 have:=t117 p0
 try simp only [smA,smW] at *
 obtain ⟨a3,ea3,qa3⟩:=cs_i64 ((E.I ρ Q190) + (1))
 try simp only [ea3] at *
 omega
def F124:E:=(.imp (.and Q139 Q225) (.not (.cmp .lss Q226 (.int 0))))
theorem G124:Tr F124:=ii3 fun ρ p0 p1 p2=>by
 have:=t117 p0
 try simp only [smA,smW] at *
 obtain ⟨a2,ea2,qa2⟩:=cs_i64 ((E.I ρ Q222) - (1))
 try simp only [ea2] at *
 omega
def F125:E:=(.imp (.and (.not Q223) (.and Q227 (.and Q229 (.not (.cmp .lss (.fn 9 (.pr (.fn 1 (.pr Q0 (.int 0))) (.int 12))) Q222))))) (.iff (.cmp .eql (.fn 0 Q228) (.fn 9 (.pr (.fn 1 (.pr Q0 (.int 0))) (.int 12)))) (.fn 108 Q0)))
theorem G125:Tr F125:=ii4 fun ρ p0 p1 p2 p3=>by
 have:=@t_placed ρ Q222 Q228 Q0 p2 p1
 try simp only [smA,smW] at *
 grind
def F126:E:=(.imp Q204 (.not (.cmp .lss (.fn 7 (.pr (.fn 9 (.pr (.fn 1 (.pr Q0 (.int 29))) (.int 5))) Q205)) (.int 0))))
theorem G126:Tr F126:=ii3 fun ρ p0 p1 p2=>by
 have:=t117 p0
 try simp only [smA,smW] at *
 obtain ⟨a3,ea3,qa3⟩:=cs_i64 ((E.I ρ Q190) + (1))
 try simp only [ea3] at *
 omega
def F127:E:=(.imp Q225 (.cmp .lss Q226 (.fn 9 (.pr (.fn 1 (.pr Q0 (.int 0))) (.int 12)))))
theorem G127:Tr F127:=ii2 fun ρ p0 p1=>by
 try simp only [smA,smW] at *
 obtain ⟨a2,ea2,qa2⟩:=cs_i64 ((E.I ρ Q222) - (1))
 try simp only [ea2] at *
 omega
def F128:E:=(.imp Q233 (.not (.cmp .lss Q234 (.int 0))))
theorem G128:Tr F128:=ii2 fun ρ p0 p1=>by
 try simp only [smA,smW] at *
 obtain ⟨a4,ea4,qa4⟩:=cs_i64 ((E.I ρ Q222) + (1))
 try simp only [ea4] at *
 omega
def F129:E:=(.imp (.and Q223 (.and Q236 (.and Q235 (.and Q230 (.and (.fn 33 (.pr Q228 (.fn 1 (.pr (.fn 1 (.pr Q0 (.int 0))) (.fn 6 (.pr (.fn 8 (.pr Q222 (.int 12))) (.int 0))))))) (.and (.fn 33 (.pr Q237 (.fn 1 (.pr (.fn 1 (.pr Q0 (.int 0))) (.fn 6 (.pr (.fn 8 (.pr Q222 (.int 12))) (.int 0))))))) (.and (.not Q238) Q239))))))) Q171)
theorem G129:Tr F129:=ii11 fun ρ p0 p1 p2 p3 p4 p5 p6 p7 p8 p9 p10=>by
 have:=@wrap_sub ρ Q222 (.int 1)
 have:=@t_obj10 ρ Q222 (.fn 6 (.pr Q222 (.int 1))) Q228 Q0 Q237 p9 p8 p7 Q226 (.fn 1 (.pr (.fn 1 (.pr Q0 (.int 0))) (.fn 6 (.pr (.fn 8 (.pr Q222 (.int 12))) (.int 0))))) (.fn 1 (.pr (.fn 1 (.pr Q0 (.int 0))) (.fn 6 (.pr (.fn 8 (.pr Q222 (.int 12))) (.int 1))))) (.fn 1 (.pr (.fn 1 (.pr Q0 (.int 0))) (.fn 6 (.pr (.fn 8 (.pr Q222 (.int 12))) (.int 2))))) (.fn 1 (.pr (.fn 1 (.pr Q0 (.int 0))) (.fn 6 (.pr (.fn 8 (.pr Q222 (.int 12))) (.int 3))))) (.fn 1 (.pr (.fn 1 (.pr Q0 (.int 0))) (.fn 6 (.pr (.fn 8 (.pr Q222 (.int 12))) (.int 4))))) (.fn 1 (.pr (.fn 1 (.pr Q0 (.int 0))) (.fn 6 (.pr (.fn 8 (.pr Q222 (.int 12))) (.int 5))))) (.fn 1 (.pr (.fn 1 (.pr Q0 (.int 0))) (.fn 6 (.pr (.fn 8 (.pr Q222 (.int 12))) (.int 6))))) (.fn 1 (.pr (.fn 1 (.pr Q0 (.int 0))) (.fn 6 (.pr (.fn 8 (.pr Q222 (.int 12))) (.int 7))))) (.fn 1 (.pr (.fn 1 (.pr Q0 (.int 0))) (.fn 6 (.pr (.fn 8 (.pr Q222 (.int 12))) (.int 8))))) rfl rfl rfl rfl rfl rfl rfl rfl rfl
 try simp only [smA,smW] at *
 grind
def F130:E:=(.imp (.and Q223 (.and Q230 (.and (.not Q240) Q239))) Q171)
theorem G130:Tr F130:=ii7 fun ρ p0 p1 p2 p3 p4 p5 p6=>by
 have:=@wrap_sub ρ Q222 (.int 1)
 have:=@t_obj10 ρ Q222 (.fn 6 (.pr Q222 (.int 1))) Q228 Q0 Q237 p5 p4 p3 Q226 (.fn 1 (.pr (.fn 1 (.pr Q0 (.int 0))) (.fn 6 (.pr (.fn 8 (.pr Q222 (.int 12))) (.int 0))))) (.fn 1 (.pr (.fn 1 (.pr Q0 (.int 0))) (.fn 6 (.pr (.fn 8 (.pr Q222 (.int 12))) (.int 1))))) (.fn 1 (.pr (.fn 1 (.pr Q0 (.int 0))) (.fn 6 (.pr (.fn 8 (.pr Q222 (.int 12))) (.int 2))))) (.fn 1 (.pr (.fn 1 (.pr Q0 (.int 0))) (.fn 6 (.pr (.fn 8 (.pr Q222 (.int 12))) (.int 3))))) (.fn 1 (.pr (.fn 1 (.pr Q0 (.int 0))) (.fn 6 (.pr (.fn 8 (.pr Q222 (.int 12))) (.int 4))))) (.fn 1 (.pr (.fn 1 (.pr Q0 (.int 0))) (.fn 6 (.pr (.fn 8 (.pr Q222 (.int 12))) (.int 5))))) (.fn 1 (.pr (.fn 1 (.pr Q0 (.int 0))) (.fn 6 (.pr (.fn 8 (.pr Q222 (.int 12))) (.int 6))))) (.fn 1 (.pr (.fn 1 (.pr Q0 (.int 0))) (.fn 6 (.pr (.fn 8 (.pr Q222 (.int 12))) (.int 7))))) (.fn 1 (.pr (.fn 1 (.pr Q0 (.int 0))) (.fn 6 (.pr (.fn 8 (.pr Q222 (.int 12))) (.int 8))))) rfl rfl rfl rfl rfl rfl rfl rfl rfl
 try simp only [smA,smW] at *
 grind
def F131:E:=(.imp (.and Q223 (.and Q230 (.and Q241 Q239))) Q171)
theorem G131:Tr F131:=ii7 fun ρ p0 p1 p2 p3 p4 p5 p6=>by
 have:=@wrap_sub ρ Q222 (.int 1)
 have:=@t_obj10 ρ Q222 (.fn 6 (.pr Q222 (.int 1))) Q228 Q0 Q237 p5 p4 p3 Q226 (.fn 1 (.pr (.fn 1 (.pr Q0 (.int 0))) (.fn 6 (.pr (.fn 8 (.pr Q222 (.int 12))) (.int 0))))) (.fn 1 (.pr (.fn 1 (.pr Q0 (.int 0))) (.fn 6 (.pr (.fn 8 (.pr Q222 (.int 12))) (.int 1))))) (.fn 1 (.pr (.fn 1 (.pr Q0 (.int 0))) (.fn 6 (.pr (.fn 8 (.pr Q222 (.int 12))) (.int 2))))) (.fn 1 (.pr (.fn 1 (.pr Q0 (.int 0))) (.fn 6 (.pr (.fn 8 (.pr Q222 (.int 12))) (.int 3))))) (.fn 1 (.pr (.fn 1 (.pr Q0 (.int 0))) (.fn 6 (.pr (.fn 8 (.pr Q222 (.int 12))) (.int 4))))) (.fn 1 (.pr (.fn 1 (.pr Q0 (.int 0))) (.fn 6 (.pr (.fn 8 (.pr Q222 (.int 12))) (.int 5))))) (.fn 1 (.pr (.fn 1 (.pr Q0 (.int 0))) (.fn 6 (.pr (.fn 8 (.pr Q222 (.int 12))) (.int 6))))) (.fn 1 (.pr (.fn 1 (.pr Q0 (.int 0))) (.fn 6 (.pr (.fn 8 (.pr Q222 (.int 12))) (.int 7))))) (.fn 1 (.pr (.fn 1 (.pr Q0 (.int 0))) (.fn 6 (.pr (.fn 8 (.pr Q222 (.int 12))) (.int 8))))) rfl rfl rfl rfl rfl rfl rfl rfl rfl
 try simp only [smA,smW] at *
 grind
def F132:E:=(.imp (.and Q139 Q225) (.not (.cmp .lss Q234 (.int 0))))
theorem G132:Tr F132:=ii3 fun ρ p0 p1 p2=>by
 have:=t117 p0
 try simp only [smA,smW] at *
 obtain ⟨a6,ea6,qa6⟩:=cs_i64 ((E.I ρ Q222) + (1))
 try simp only [ea6] at *
 omega
def F133:E:=(.imp (.and Q223 (.and Q236 (.and Q235 (.and Q224 (.and Q242 (.and (.fn 33 (.pr Q228 (.fn 1 (.pr (.fn 1 (.pr Q0 (.int 0))) (.fn 6 (.pr (.fn 8 (.pr Q222 (.int 12))) (.int 0))))))) (.and (.fn 33 (.pr Q237 (.fn 1 (.pr (.fn 1 (.pr Q0 (.int 0))) (.fn 6 (.pr (.fn 8 (.pr Q222 (.int 12))) (.int 0))))))) (.and (.not Q238) Q243)))))))) Q171)
theorem G133:Tr F133:=ii13 fun ρ p0 p1 p2 p3 p4 p5 p6 p7 p8 p9 p10 p11 p12=>by
 have:=t117 p12
 have:=@wrap_sub ρ Q222 (.int 1)
 have:=@t_obj10 ρ Q222 (.fn 6 (.pr Q222 (.int 1))) Q228 Q0 Q237 p10 p9 p8 Q226 (.fn 1 (.pr (.fn 1 (.pr Q0 (.int 0))) (.fn 6 (.pr (.fn 8 (.pr Q222 (.int 12))) (.int 0))))) (.fn 1 (.pr (.fn 1 (.pr Q0 (.int 0))) (.fn 6 (.pr (.fn 8 (.pr Q222 (.int 12))) (.int 1))))) (.fn 1 (.pr (.fn 1 (.pr Q0 (.int 0))) (.fn 6 (.pr (.fn 8 (.pr Q222 (.int 12))) (.int 2))))) (.fn 1 (.pr (.fn 1 (.pr Q0 (.int 0))) (.fn 6 (.pr (.fn 8 (.pr Q222 (.int 12))) (.int 3))))) (.fn 1 (.pr (.fn 1 (.pr Q0 (.int 0))) (.fn 6 (.pr (.fn 8 (.pr Q222 (.int 12))) (.int 4))))) (.fn 1 (.pr (.fn 1 (.pr Q0 (.int 0))) (.fn 6 (.pr (.fn 8 (.pr Q222 (.int 12))) (.int 5))))) (.fn 1 (.pr (.fn 1 (.pr Q0 (.int 0))) (.fn 6 (.pr (.fn 8 (.pr Q222 (.int 12))) (.int 6))))) (.fn 1 (.pr (.fn 1 (.pr Q0 (.int 0))) (.fn 6 (.pr (.fn 8 (.pr Q222 (.int 12))) (.int 7))))) (.fn 1 (.pr (.fn 1 (.pr Q0 (.int 0))) (.fn 6 (.pr (.fn 8 (.pr Q222 (.int 12))) (.int 8))))) rfl rfl rfl rfl rfl rfl rfl rfl rfl
 try simp only [smA,smW] at *
 grind
def F134:E:=(.imp (.and Q223 (.and Q224 (.and (.not Q240) Q243))) Q171)
theorem G134:Tr F134:=ii8 fun ρ p0 p1 p2 p3 p4 p5 p6 p7=>by
 have:=t117 p7
 have:=@wrap_sub ρ Q222 (.int 1)
 have:=@t_obj10 ρ Q222 (.fn 6 (.pr Q222 (.int 1))) Q228 Q0 Q237 p5 p4 p3 Q226 (.fn 1 (.pr (.fn 1 (.pr Q0 (.int 0))) (.fn 6 (.pr (.fn 8 (.pr Q222 (.int 12))) (.int 0))))) (.fn 1 (.pr (.fn 1 (.pr Q0 (.int 0))) (.fn 6 (.pr (.fn 8 (.pr Q222 (.int 12))) (.int 1))))) (.fn 1 (.pr (.fn 1 (.pr Q0 (.int 0))) (.fn 6 (.pr (.fn 8 (.pr Q222 (.int 12))) (.int 2))))) (.fn 1 (.pr (.fn 1 (.pr Q0 (.int 0))) (.fn 6 (.pr (.fn 8 (.pr Q222 (.int 12))) (.int 3))))) (.fn 1 (.pr (.fn 1 (.pr Q0 (.int 0))) (.fn 6 (.pr (.fn 8 (.pr Q222 (.int 12))) (.int 4))))) (.fn 1 (.pr (.fn 1 (.pr Q0 (.int 0))) (.fn 6 (.pr (.fn 8 (.pr Q222 (.int 12))) (.int 5))))) (.fn 1 (.pr (.fn 1 (.pr Q0 (.int 0))) (.fn 6 (.pr (.fn 8 (.pr Q222 (.int 12))) (.int 6))))) (.fn 1 (.pr (.fn 1 (.pr Q0 (.int 0))) (.fn 6 (.pr (.fn 8 (.pr Q222 (.int 12))) (.int 7))))) (.fn 1 (.pr (.fn 1 (.pr Q0 (.int 0))) (.fn 6 (.pr (.fn 8 (.pr Q222 (.int 12))) (.int 8))))) rfl rfl rfl rfl rfl rfl rfl rfl rfl
 try simp only [smA,smW] at *
 grind
def F135:E:=(.imp (.and Q223 (.and Q224 (.and Q241 Q243))) Q171)
theorem G135:Tr F135:=ii8 fun ρ p0 p1 p2 p3 p4 p5 p6 p7=>by
 have:=t117 p7
 have:=@wrap_sub ρ Q222 (.int 1)
 have:=@t_obj10 ρ Q222 (.fn 6 (.pr Q222 (.int 1))) Q228 Q0 Q237 p5 p4 p3 Q226 (.fn 1 (.pr (.fn 1 (.pr Q0 (.int 0))) (.fn 6 (.pr (.fn 8 (.pr Q222 (.int 12))) (.int 0))))) (.fn 1 (.pr (.fn 1 (.pr Q0 (.int 0))) (.fn 6 (.pr (.fn 8 (.pr Q222 (.int 12))) (.int 1))))) (.fn 1 (.pr (.fn 1 (.pr Q0 (.int 0))) (.fn 6 (.pr (.fn 8 (.pr Q222 (.int 12))) (.int 2))))) (.fn 1 (.pr (.fn 1 (.pr Q0 (.int 0))) (.fn 6 (.pr (.fn 8 (.pr Q222 (.int 12))) (.int 3))))) (.fn 1 (.pr (.fn 1 (.pr Q0 (.int 0))) (.fn 6 (.pr (.fn 8 (.pr Q222 (.int 12))) (.int 4))))) (.fn 1 (.pr (.fn 1 (.pr Q0 (.int 0))) (.fn 6 (.pr (.fn 8 (.pr Q222 (.int 12))) (.int 5))))) (.fn 1 (.pr (.fn 1 (.pr Q0 (.int 0))) (.fn 6 (.pr (.fn 8 (.pr Q222 (.int 12))) (.int 6))))) (.fn 1 (.pr (.fn 1 (.pr Q0 (.int 0))) (.fn 6 (.pr (.fn 8 (.pr Q222 (.int 12))) (.int 7))))) (.fn 1 (.pr (.fn 1 (.pr Q0 (.int 0))) (.fn 6 (.pr (.fn 8 (.pr Q222 (.int 12))) (.int 8))))) rfl rfl rfl rfl rfl rfl rfl rfl rfl
 try simp only [smA,smW] at *
 grind
def F136:E:=(.imp (.and Q223 (.and Q236 (.and Q235 (.and Q224 (.and (.not Q242) Q243))))) Q171)
theorem G136:Tr F136:=ii10 fun ρ p0 p1 p2 p3 p4 p5 p6 p7 p8 p9=>by
 have:=t117 p9
 have:=@wrap_sub ρ Q222 (.int 1)
 have:=@t_obj10 ρ Q222 (.fn 6 (.pr Q222 (.int 1))) Q228 Q0 Q237 p7 p6 p5 Q226 (.fn 1 (.pr (.fn 1 (.pr Q0 (.int 0))) (.fn 6 (.pr (.fn 8 (.pr Q222 (.int 12))) (.int 0))))) (.fn 1 (.pr (.fn 1 (.pr Q0 (.int 0))) (.fn 6 (.pr (.fn 8 (.pr Q222 (.int 12))) (.int 1))))) (.fn 1 (.pr (.fn 1 (.pr Q0 (.int 0))) (.fn 6 (.pr (.fn 8 (.pr Q222 (.int 12))) (.int 2))))) (.fn 1 (.pr (.fn 1 (.pr Q0 (.int 0))) (.fn 6 (.pr (.fn 8 (.pr Q222 (.int 12))) (.int 3))))) (.fn 1 (.pr (.fn 1 (.pr Q0 (.int 0))) (.fn 6 (.pr (.fn 8 (.pr Q222 (.int 12))) (.int 4))))) (.fn 1 (.pr (.fn 1 (.pr Q0 (.int 0))) (.fn 6 (.pr (.fn 8 (.pr Q222 (.int 12))) (.int 5))))) (.fn 1 (.pr (.fn 1 (.pr Q0 (.int 0))) (.fn 6 (.pr (.fn 8 (.pr Q222 (.int 12))) (.int 6))))) (.fn 1 (.pr (.fn 1 (.pr Q0 (.int 0))) (.fn 6 (.pr (.fn 8 (.pr Q222 (.int 12))) (.int 7))))) (.fn 1 (.pr (.fn 1 (.pr Q0 (.int 0))) (.fn 6 (.pr (.fn 8 (.pr Q222 (.int 12))) (.int 8))))) rfl rfl rfl rfl rfl rfl rfl rfl rfl
 try simp only [smA,smW] at *
 grind
def F137:E:=(.imp (.and Q223 (.and Q236 (.and (.not Q235) Q243))) Q171)
theorem G137:Tr F137:=ii8 fun ρ p0 p1 p2 p3 p4 p5 p6 p7=>by
 have:=t117 p7
 have:=@wrap_sub ρ Q222 (.int 1)
 have:=@t_obj10 ρ Q222 (.fn 6 (.pr Q222 (.int 1))) Q228 Q0 Q237 p5 p4 p3 Q226 (.fn 1 (.pr (.fn 1 (.pr Q0 (.int 0))) (.fn 6 (.pr (.fn 8 (.pr Q222 (.int 12))) (.int 0))))) (.fn 1 (.pr (.fn 1 (.pr Q0 (.int 0))) (.fn 6 (.pr (.fn 8 (.pr Q222 (.int 12))) (.int 1))))) (.fn 1 (.pr (.fn 1 (.pr Q0 (.int 0))) (.fn 6 (.pr (.fn 8 (.pr Q222 (.int 12))) (.int 2))))) (.fn 1 (.pr (.fn 1 (.pr Q0 (.int 0))) (.fn 6 (.pr (.fn 8 (.pr Q222 (.int 12))) (.int 3))))) (.fn 1 (.pr (.fn 1 (.pr Q0 (.int 0))) (.fn 6 (.pr (.fn 8 (.pr Q222 (.int 12))) (.int 4))))) (.fn 1 (.pr (.fn 1 (.pr Q0 (.int 0))) (.fn 6 (.pr (.fn 8 (.pr Q222 (.int 12))) (.int 5))))) (.fn 1 (.pr (.fn 1 (.pr Q0 (.int 0))) (.fn 6 (.pr (.fn 8 (.pr Q222 (.int 12))) (.int 6))))) (.fn 1 (.pr (.fn 1 (.pr Q0 (.int 0))) (.fn 6 (.pr (.fn 8 (.pr Q222 (.int 12))) (.int 7))))) (.fn 1 (.pr (.fn 1 (.pr Q0 (.int 0))) (.fn 6 (.pr (.fn 8 (.pr Q222 (.int 12))) (.int 8))))) rfl rfl rfl rfl rfl rfl rfl rfl rfl
 try simp only [smA,smW] at *
 grind
def F138:E:=(.imp Q244 Q246)
theorem G138:Tr F138:=ii3 fun ρ p0 p1 p2=>by
 try simp only [smA,smW] at *
 obtain ⟨a4,ea4,qa4⟩:=cs_i64 ((E.I ρ Q222) + (1))
 try simp only [ea4] at *
 omega
def F139:E:=(.imp Q225 Q246)
theorem G139:Tr F139:=ii2 fun ρ p0 p1=>by
 try simp only [smA,smW] at *
 obtain ⟨a6,ea6,qa6⟩:=cs_i64 ((E.I ρ Q222) + (1))
 try simp only [ea6] at *
 omega
def F140:E:=(.imp (.and Q223 (.and Q236 (.and Q235 (.and Q230 (.and (.fn 33 (.pr Q228 (.fn 1 (.pr (.fn 1 (.pr Q0 (.int 0))) (.fn 6 (.pr (.fn 8 (.pr Q222 (.int 12))) (.int 0))))))) (.and Q240 (.and Q247 Q239))))))) Q248)
theorem G140:Tr F140:=ii11 fun ρ p0 p1 p2 p3 p4 p5 p6 p7 p8 p9 p10=>by
 have:=@wrap_add ρ Q222 (.int 1)
 have:=@wrap_sub ρ Q222 (.int 1)
 have:=@t_obj10 ρ Q222 Q234 Q228 Q0 Q237 p9 p8 p7 Q226 (.fn 1 (.pr (.fn 1 (.pr Q0 (.int 0))) (.fn 6 (.pr (.fn 8 (.pr Q222 (.int 12))) (.int 0))))) (.fn 1 (.pr (.fn 1 (.pr Q0 (.int 0))) (.fn 6 (.pr (.fn 8 (.pr Q222 (.int 12))) (.int 1))))) (.fn 1 (.pr (.fn 1 (.pr Q0 (.int 0))) (.fn 6 (.pr (.fn 8 (.pr Q222 (.int 12))) (.int 2))))) (.fn 1 (.pr (.fn 1 (.pr Q0 (.int 0))) (.fn 6 (.pr (.fn 8 (.pr Q222 (.int 12))) (.int 3))))) (.fn 1 (.pr (.fn 1 (.pr Q0 (.int 0))) (.fn 6 (.pr (.fn 8 (.pr Q222 (.int 12))) (.int 4))))) (.fn 1 (.pr (.fn 1 (.pr Q0 (.int 0))) (.fn 6 (.pr (.fn 8 (.pr Q222 (.int 12))) (.int 5))))) (.fn 1 (.pr (.fn 1 (.pr Q0 (.int 0))) (.fn 6 (.pr (.fn 8 (.pr Q222 (.int 12))) (.int 6))))) (.fn 1 (.pr (.fn 1 (.pr Q0 (.int 0))) (.fn 6 (.pr (.fn 8 (.pr Q222 (.int 12))) (.int 7))))) (.fn 1 (.pr (.fn 1 (.pr Q0 (.int 0))) (.fn 6 (.pr (.fn 8 (.pr Q222 (.int 12))) (.int 8))))) rfl rfl rfl rfl rfl rfl rfl rfl rfl
 try simp only [smA,smW] at *
 grind
def F141:E:=(.imp (.and Q223 (.and Q236 (.and Q235 (.and Q230 (.and (.fn 33 (.pr Q228 (.fn 1 (.pr (.fn 1 (.pr Q0 (.int 0))) (.fn 6 (.pr (.fn 8 (.pr Q222 (.int 12))) (.int 0))))))) (.and Q240 (.and Q238 Q239))))))) Q248)
theorem G141:Tr F141:=ii11 fun ρ p0 p1 p2 p3 p4 p5 p6 p7 p8 p9 p10=>by
 have:=@wrap_add ρ Q222 (.int 1)
 have:=@wrap_sub ρ Q222 (.int 1)
 have:=@t_obj10 ρ Q222 Q234 Q228 Q0 Q237 p9 p8 p7 Q226 (.fn 1 (.pr (.fn 1 (.pr Q0 (.int 0))) (.fn 6 (.pr (.fn 8 (.pr Q222 (.int 12))) (.int 0))))) (.fn 1 (.pr (.fn 1 (.pr Q0 (.int 0))) (.fn 6 (.pr (.fn 8 (.pr Q222 (.int 12))) (.int 1))))) (.fn 1 (.pr (.fn 1 (.pr Q0 (.int 0))) (.fn 6 (.pr (.fn 8 (.pr Q222 (.int 12))) (.int 2))))) (.fn 1 (.pr (.fn 1 (.pr Q0 (.int 0))) (.fn 6 (.pr (.fn 8 (.pr Q222 (.int 12))) (.int 3))))) (.fn 1 (.pr (.fn 1 (.pr Q0 (.int 0))) (.fn 6 (.pr (.fn 8 (.pr Q222 (.int 12))) (.int 4))))) (.fn 1 (.pr (.fn 1 (.pr Q0 (.int 0))) (.fn 6 (.pr (.fn 8 (.pr Q222 (.int 12))) (.int 5))))) (.fn 1 (.pr (.fn 1 (.pr Q0 (.int 0))) (.fn 6 (.pr (.fn 8 (.pr Q222 (.int 12))) (.int 6))))) (.fn 1 (.pr (.fn 1 (.pr Q0 (.int 0))) (.fn 6 (.pr (.fn 8 (.pr Q222 (.int 12))) (.int 7))))) (.fn 1 (.pr (.fn 1 (.pr Q0 (.int 0))) (.fn 6 (.pr (.fn 8 (.pr Q222 (.int 12))) (.int 8))))) rfl rfl rfl rfl rfl rfl rfl rfl rfl
 try simp only [smA,smW] at *
 grind
def F142:E:=(.imp (.and Q223 (.and Q236 (.and Q235 (.and Q224 (.and Q242 (.and (.fn 33 (.pr Q228 (.fn 1 (.pr (.fn 1 (.pr Q0 (.int 0))) (.fn 6 (.pr (.fn 8 (.pr Q222 (.int 12))) (.int 0))))))) (.and Q240 (.and Q247 Q243)))))))) Q248)
theorem G142:Tr F142:=ii13 fun ρ p0 p1 p2 p3 p4 p5 p6 p7 p8 p9 p10 p11 p12=>by
 have:=t117 p12
 have:=@wrap_sub ρ Q222 (.int 1)
 have:=@wrap_add ρ Q222 (.int 1)
 have:=@t_obj10 ρ Q222 Q234 Q228 Q0 Q237 p10 p9 p8 Q226 (.fn 1 (.pr (.fn 1 (.pr Q0 (.int 0))) (.fn 6 (.pr (.fn 8 (.pr Q222 (.int 12))) (.int 0))))) (.fn 1 (.pr (.fn 1 (.pr Q0 (.int 0))) (.fn 6 (.pr (.fn 8 (.pr Q222 (.int 12))) (.int 1))))) (.fn 1 (.pr (.fn 1 (.pr Q0 (.int 0))) (.fn 6 (.pr (.fn 8 (.pr Q222 (.int 12))) (.int 2))))) (.fn 1 (.pr (.fn 1 (.pr Q0 (.int 0))) (.fn 6 (.pr (.fn 8 (.pr Q222 (.int 12))) (.int 3))))) (.fn 1 (.pr (.fn 1 (.pr Q0 (.int 0))) (.fn 6 (.pr (.fn 8 (.pr Q222 (.int 12))) (.int 4))))) (.fn 1 (.pr (.fn 1 (.pr Q0 (.int 0))) (.fn 6 (.pr (.fn 8 (.pr Q222 (.int 12))) (.int 5))))) (.fn 1 (.pr (.fn 1 (.pr Q0 (.int 0))) (.fn 6 (.pr (.fn 8 (.pr Q222 (.int 12))) (.int 6))))) (.fn 1 (.pr (.fn 1 (.pr Q0 (.int 0))) (.fn 6 (.pr (.fn 8 (.pr Q222 (.int 12))) (.int 7))))) (.fn 1 (.pr (.fn 1 (.pr Q0 (.int 0))) (.fn 6 (.pr (.fn 8 (.pr Q222 (.int 12))) (.int 8))))) rfl rfl rfl rfl rfl rfl rfl rfl rfl
 try simp only [smA,smW] at *
 grind
def F143:E:=(.imp (.and Q223 (.and Q236 (.and Q235 (.and Q224 (.and Q242 (.and (.fn 33 (.pr Q228 (.fn 1 (.pr (.fn 1 (.pr Q0 (.int 0))) (.fn 6 (.pr (.fn 8 (.pr Q222 (.int 12))) (.int 0))))))) (.and Q240 (.and Q238 Q243)))))))) Q248)
theorem G143:Tr F143:=ii13 fun ρ p0 p1 p2 p3 p4 p5 p6 p7 p8 p9 p10 p11 p12=>by
 have:=t117 p12
 have:=@wrap_sub ρ Q222 (.int 1)
 have:=@wrap_add ρ Q222 (.int 1)
 have:=@t_obj10 ρ Q222 Q234 Q228 Q0 Q237 p10 p9 p8 Q226 (.fn 1 (.pr (.fn 1 (.pr Q0 (.int 0))) (.fn 6 (.pr (.fn 8 (.pr Q222 (.int 12))) (.int 0))))) (.fn 1 (.pr (.fn 1 (.pr Q0 (.int 0))) (.fn 6 (.pr (.fn 8 (.pr Q222 (.int 12))) (.int 1))))) (.fn 1 (.pr (.fn 1 (.pr Q0 (.int 0))) (.fn 6 (.pr (.fn 8 (.pr Q222 (.int 12))) (.int 2))))) (.fn 1 (.pr (.fn 1 (.pr Q0 (.int 0))) (.fn 6 (.pr (.fn 8 (.pr Q222 (.int 12))) (.int 3))))) (.fn 1 (.pr (.fn 1 (.pr Q0 (.int 0))) (.fn 6 (.pr (.fn 8 (.pr Q222 (.int 12))) (.int 4))))) (.fn 1 (.pr (.fn 1 (.pr Q0 (.int 0))) (.fn 6 (.pr (.fn 8 (.pr Q222 (.int 12))) (.int 5))))) (.fn 1 (.pr (.fn 1 (.pr Q0 (.int 0))) (.fn 6 (.pr (.fn 8 (.pr Q222 (.int 12))) (.int 6))))) (.fn 1 (.pr (.fn 1 (.pr Q0 (.int 0))) (.fn 6 (.pr (.fn 8 (.pr Q222 (.int 12))) (.int 7))))) (.fn 1 (.pr (.fn 1 (.pr Q0 (.int 0))) (.fn 6 (.pr (.fn 8 (.pr Q222 (.int 12))) (.int 8))))) rfl rfl rfl rfl rfl rfl rfl rfl rfl
 try simp only [smA,smW] at *
 grind
def F144:E:=(.imp Q233 Q249)
theorem G144:Tr F144:=ii2 fun ρ p0 p1=>by
 try simp only [smA,smW] at *
 obtain ⟨a4,ea4,qa4⟩:=cs_i64 ((E.I ρ Q222) + (1))
 try simp only [ea4] at *
 omega
def F145:E:=(.imp (.and Q139 Q225) Q249)
theorem G145:Tr F145:=ii3 fun ρ p0 p1 p2=>by
 have:=t117 p0
 try simp only [smA,smW] at *
 obtain ⟨a6,ea6,qa6⟩:=cs_i64 ((E.I ρ Q222) + (1))
 try simp only [ea6] at *
 omega
def F146:E:=(.imp Q244 Q251)
theorem G146:Tr F146:=ii3 fun ρ p0 p1 p2=>by
 try simp only [smA,smW] at *
 obtain ⟨a4,ea4,qa4⟩:=cs_i64 ((E.I ρ Q222) + (1))
 try simp only [ea4] at *
 omega
def F147:E:=(.imp Q225 Q251)
theorem G147:Tr F147:=ii2 fun ρ p0 p1=>by
 try simp only [smA,smW] at *
 obtain ⟨a6,ea6,qa6⟩:=cs_i64 ((E.I ρ Q222) + (1))
 try simp only [ea6] at *
 omega
namespace p6
def facts:List E:=[F69,F70,F71,F72,F73,F74,F75,F76,F77,F78,F79,F80,F81,F82,F83,F84,F85,F86,F87,F88,F89,F90,F91,F92,F93,F94,F95,F96,F97,F98,F99,F100,F101,F102,F103,F104,F105,F106,F107,F108,F109,F110,F111,F112,F113,F114,F115,F116,F117,F118,F119,F120,F121,F122,F123,F124,F125,F126,F127,F128,F129,F130,F131,F132,F133,F134,F135,F136,F137,F138,F139,F140,F141,F142,F143,F144,F145,F146,F147]
theorem facts_ok:∀ e∈facts,Tr e:=(ac G69 (ac G70 (ac G71 (ac G72 (ac G73 (ac G74 (ac G75 (ac G76 (ac G77 (ac G78 (ac G79 (ac G80 (ac G81 (ac G82 (ac G83 (ac G84 (ac G85 (ac G86 (ac G87 (ac G88 (ac G89 (ac G90 (ac G91 (ac G92 (ac G93 (ac G94 (ac G95 (ac G96 (ac G97 (ac G98 (ac G99 (ac G100 (ac G101 (ac G102 (ac G103 (ac G104 (ac G105 (ac G106 (ac G107 (ac G108 (ac G109 (ac G110 (ac G111 (ac G112 (ac G113 (ac G114 (ac G115 (ac G116 (ac G117 (ac G118 (ac G119 (ac G120 (ac G121 (ac G122 (ac G123 (ac G124 (ac G125 (ac G126 (ac G127 (ac G128 (ac G129 (ac G130 (ac G131 (ac G132 (ac G133 (ac G134 (ac G135 (ac G136 (ac G137 (ac G138 (ac G139 (ac G140 (ac G141 (ac G142 (ac G143 (ac G144 (ac G145 (ac G146 (ac G147 all_nil)))))))))))))))))))))))))))))))))))))))))))))))))))))))))))))))))))))))))))))))
end p6
theorem spec6_0:NatOk Try.prog (specNat (spPl)) :=
 spec_of_check good (facts:=p6.facts) p6.facts_ok (anns:=annPl) (plainAnns_ok _ (by kernel_rfl)) (nats:=natl7) natl7_ok (n:=3000) (by kernel_rfl)
def natl8:List Nat1:=specNat (spPl)::natl7
theorem natl8_ok:∀ x∈natl8,NatOk Try.prog x:=by
 intro x hx
 rcases List.mem_cons.1 hx with rfl | hx
 ·exact spec6_0
 exact natl7_ok x hx

end
end Go.Proofs.Ytoicbojdnjcmiaa.viewHidden
