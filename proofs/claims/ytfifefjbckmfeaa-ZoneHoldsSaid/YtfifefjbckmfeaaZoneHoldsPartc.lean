/-
  ZoneHolds: contracts of functions, part 3.
-/
import Derived.Test.YtfifefjbckmfeaaRows
import Derived.Test.YtfifefjbckmfeaaNat
import Derived.WalkKit
import Derived.ProofKit
import Derived.OpenShut
import Derived.ChangeOld
import Derived.Below
import Derived.KernelRfl
import Derived.Lib.SmallJoins
import Derived.Test.YtfifefjbckmfeaaTheory
import Derived.Test.YtfifefjbckmfeaaZoneHoldsPartb
namespace Go.Proofs.Ytfifefjbckmfeaa.zoneHolds
open Go.ChangeShapes Go.WideShapes Go.ChangeAt Go.RowKit
open Go.SX
set_option linter.unusedVariables false
set_option linter.unusedSimpArgs false
set_option maxRecDepth 100000
noncomputable section
abbrev X0:E:=.var 10
abbrev X1:E:=.var 1
abbrev X2:E:=.cmp .lss X0 (.fn 9 (.pr X1 (.int 4)))
abbrev X3:E:=.var 8
abbrev X4:E:=.cmp .lss (.int 80) (.fn 9 (.pr X1 (.int 4)))
abbrev X5:E:=.not X4
abbrev X6:E:=.var 17
abbrev X7:E:=.var 0
abbrev X8:E:=.cmp .lss X6 X7
abbrev X9:E:=.not (.cmp .lss X7 X6)
abbrev X10:E:=.var 16
abbrev X11:E:=.pr X3 X6
abbrev X12:E:=.pr X10 X11
abbrev X13:E:=.fn 110 X12
abbrev X14:E:=.cmp .lss X6 (.int 0)
abbrev X15:E:=.not X14
abbrev X16:E:=.cmp .eql (.fn 0 X10) X7
abbrev X17:E:=.cmp .eql (.fn 0 X3) X7
abbrev X18:E:=.cmp .lss (.int 32) X7
abbrev X19:E:=.not X18
abbrev X20:E:=.and X17 X19
abbrev X21:E:=.and X16 X20
abbrev X22:E:=.and X13 X21
abbrev X23:E:=.and X15 X22
abbrev X24:E:=.ar .add .i64 X6 (.int 1)
abbrev X25:E:=.fn 115 (.pr (.var 18) X11)
abbrev X26:E:=.and X25 X23
abbrev X27:E:=.and X8 X26
abbrev X28:E:=.and X15 X19
abbrev X29:E:=.and X8 X28
abbrev X30:E:=.and X9 X28
abbrev X31:E:=.and X8 X30
abbrev X32:E:=.var 49
abbrev X33:E:=.var 40
abbrev X34:E:=.var 38
abbrev X35:E:=.cmp .lss X32 (.fn 0 (.fn 1 (.pr X33 X34)))
abbrev X36:E:=.not (.cmp .lss (.int 100) (.fn 0 (.fn 1 (.pr X33 X34))))
abbrev X37:E:=.cmp .lss X32 (.int 0)
abbrev X38:E:=.not X37
abbrev X39:E:=.and X36 X38
abbrev X40:E:=.and X35 X39
abbrev X41:E:=.ar .add .i64 X32 (.int 1)
abbrev X42:E:=.pr (.fn 1 (.pr X1 (.fn 6 (.pr (.fn 8 (.pr X0 (.int 4))) (.int 1))))) X32
abbrev X43:E:=.pr (.fn 1 (.pr X33 X34)) X42
abbrev X44:E:=.pr (.fn 10 (.int 0)) X43
abbrev X45:E:=.fn 113 X44
abbrev X46:E:=.cmp .lss (.fn 0 (.fn 1 (.pr X33 X34))) X32
abbrev X47:E:=.not X46
abbrev X48:E:=.pr (.fn 1 (.pr X33 X34)) (.pr (.fn 1 (.pr X1 (.fn 6 (.pr (.fn 8 (.pr X0 (.int 4))) (.int 1))))) (.fn 0 (.fn 1 (.pr X33 X34))))
abbrev X49:E:=.pr (.fn 10 (.int 0)) X48
abbrev X50:E:=.fn 113 X49
abbrev X51:E:=.and X47 X38
abbrev X52:E:=.and X36 X51
abbrev X53:E:=.and X35 X52
abbrev X54:E:=.cmp .lss (.fn 0 (.fn 1 (.pr X33 X34))) X41
abbrev X55:E:=.not X54
abbrev X56:E:=.cmp .eql (.fn 1 (.pr (.fn 1 (.pr X33 X34)) X32)) (.fn 1 (.pr X1 (.fn 6 (.pr (.fn 8 (.pr X0 (.int 4))) (.int 1)))))
abbrev X57:E:=.and X45 X39
abbrev X58:E:=.pr (.fn 1 (.pr X33 X34)) (.pr (.fn 1 (.pr X1 (.fn 6 (.pr (.fn 8 (.pr X0 (.int 4))) (.int 1))))) X41)
abbrev X59:E:=.cmp .lss (.fn 7 (.pr (.fn 0 (.fn 1 (.pr X33 X34))) X41)) (.fn 7 (.pr (.fn 0 (.fn 1 (.pr X33 X34))) X32))
abbrev X60:E:=.cmp .lss (.fn 7 (.pr (.fn 0 (.fn 1 (.pr X33 X34))) X41)) (.int 0)
abbrev X61:E:=.not X60
abbrev X62:E:=.var 51
abbrev X63:E:=.cmp .lss X62 (.int 1)
abbrev X64:E:=.not X63
abbrev X65:E:=.cmp .lss X32 X62
abbrev X66:E:=.not X65
abbrev X67:E:=.and X36 X47
abbrev X68:E:=.and X64 X67
abbrev X69:E:=.and X66 X68
abbrev X70:E:=.and X35 X69
abbrev X71:E:=.var 50
abbrev X72:E:=.pr X71 X43
abbrev X73:E:=.fn 113 X72
abbrev X74:E:=.and X64 X36
abbrev X75:E:=.and X66 X74
abbrev X76:E:=.and X35 X75
abbrev X77:E:=.and X64 X39
abbrev X78:E:=.and X66 X77
abbrev X79:E:=.and X73 X78
abbrev X80:E:=.var 32
abbrev X81:E:=.cmp .lss (.fn 6 (.pr X0 (.int 1))) (.fn 109 X80)
abbrev X82:E:=.not X81
abbrev X83:E:=.and X2 X5
abbrev X84:E:=.var 72
abbrev X85:E:=.var 65
abbrev X86:E:=.cmp .lss X84 (.fn 0 X85)
abbrev X87:E:=.var 64
abbrev X88:E:=.pr X80 (.pr X34 X84)
abbrev X89:E:=.pr X87 X88
abbrev X90:E:=.fn 112 X89
abbrev X91:E:=.cmp .lss X84 (.int 0)
abbrev X92:E:=.not X91
abbrev X93:E:=.fn 115 (.pr X85 (.pr X80 X34))
abbrev X94:E:=.cmp .lss X34 X7
abbrev X95:E:=.not (.cmp .lss X34 (.int 0))
abbrev X96:E:=.cmp .eql (.fn 0 X80) X7
abbrev X97:E:=.fn 106 (.pr X80 (.var 33))
abbrev X98:E:=.and X96 X97
abbrev X99:E:=.and X95 X98
abbrev X100:E:=.and X94 X99
abbrev X101:E:=.and X93 X100
abbrev X102:E:=.not (.fn 32 (.pr X87 (.pr (.fn 1 (.pr X85 X84)) (.bool false))))
abbrev X103:E:=.cmp .lss (.fn 0 X85) X84
abbrev X104:E:=.not X103
abbrev X105:E:=.pr X34 (.fn 0 X85)
abbrev X106:E:=.pr X80 X105
abbrev X107:E:=.pr X87 X106
abbrev X108:E:=.fn 112 X107
abbrev X109:E:=.pr (.fn 1 (.pr X1 (.fn 6 (.pr (.fn 8 (.pr X0 (.int 4))) (.int 1))))) X84
abbrev X110:E:=.pr X85 X109
abbrev X111:E:=.pr (.fn 10 (.int 0)) X110
abbrev X112:E:=.fn 113 X111
abbrev X113:E:=.pr (.fn 1 (.pr X1 (.fn 6 (.pr (.fn 8 (.pr X0 (.int 4))) (.int 1))))) (.fn 0 X85)
abbrev X114:E:=.pr X85 X113
abbrev X115:E:=.pr (.fn 10 (.int 0)) X114
abbrev X116:E:=.fn 113 X115
abbrev X117:E:=.var 74
abbrev X118:E:=.cmp .lss (.fn 107 (.pr X80 (.fn 1 (.pr X85 X84)))) (.int 0)
abbrev X119:E:=.not X118
abbrev X120:E:=.cmp .eql (.fn 107 (.pr X80 (.fn 1 (.pr X85 X84)))) X34
abbrev X121:E:=.cmp .eql (.fn 108 (.pr X80 (.pr (.fn 107 (.pr X80 (.fn 1 (.pr X85 X84)))) (.fn 1 (.pr X85 X84))))) X84
abbrev X122:E:=.and X120 X121
abbrev X123:E:=.and X119 X122
abbrev X124:E:=.iff X117 X123
abbrev X125:E:=.and X86 X124
abbrev X126:E:=.and X97 X125
abbrev X127:E:=.and X96 X126
abbrev X128:E:=.and X95 X127
abbrev X129:E:=.and X94 X128
abbrev X130:E:=.and X93 X129
abbrev X131:E:=.cmp .lss (.int 100) (.fn 0 X85)
abbrev X132:E:=.not X131
abbrev X133:E:=.and X92 X132
abbrev X134:E:=.ar .add .i64 X84 (.int 1)
abbrev X135:E:=.var 73
abbrev X136:E:=.iff X135 X123
abbrev X137:E:=.and X86 X136
abbrev X138:E:=.and X97 X137
abbrev X139:E:=.and X96 X138
abbrev X140:E:=.and X95 X139
abbrev X141:E:=.and X94 X140
abbrev X142:E:=.and X93 X141
abbrev X143:E:=.and X104 X133
abbrev X144:E:=.and X86 X143
abbrev X145:E:=.cmp .eql (.fn 1 (.pr X85 X84)) (.fn 1 (.pr X1 (.fn 6 (.pr (.fn 8 (.pr X0 (.int 4))) (.int 1)))))
abbrev X146:E:=.and X112 X133
abbrev X147:E:=.pr (.fn 1 (.pr X1 (.fn 6 (.pr (.fn 8 (.pr X0 (.int 4))) (.int 1))))) X134
abbrev X148:E:=.pr X85 X147
abbrev X149:E:=.cmp .lss (.fn 7 (.pr (.fn 0 X85) X134)) (.fn 7 (.pr (.fn 0 X85) X84))
abbrev X150:E:=.cmp .lss (.fn 7 (.pr (.fn 0 X85) X134)) (.int 0)
abbrev X151:E:=.not X150
abbrev X152:E:=.var 70
abbrev X153:E:=.not (.cmp .lss X152 (.int 1))
abbrev X154:E:=.not (.cmp .lss X84 X152)
abbrev X155:E:=.and X104 X132
abbrev X156:E:=.var 69
abbrev X157:E:=.pr X156 X110
abbrev X158:E:=.fn 113 X157
abbrev X159:E:=.pr X156 X114
abbrev X160:E:=.fn 113 X159
abbrev X161:E:=.and X153 X155
abbrev X162:E:=.and X154 X161
abbrev X163:E:=.and X86 X162
abbrev X164:E:=.and X153 X132
abbrev X165:E:=.and X154 X164
abbrev X166:E:=.and X86 X165
abbrev X167:E:=.and X158 (.and X154 (.and X153 X133))
abbrev X168:E:=.cmp .eql (.fn 0 X156) X152
abbrev X169:E:=.and X94 (.and X95 X19)
abbrev X170:E:=.ar .add .i64 X34 (.int 1)
abbrev X171:E:=.var 75
abbrev X172:E:=.cmp .eql X171 (.fn 1 (.pr (.fn 1 (.pr X80 X34)) (.fn 7 (.pr (.fn 0 (.fn 1 (.pr X80 X34))) (.int 1)))))
abbrev X173:E:=.not (.cmp .lss (.fn 0 (.fn 1 (.pr X80 X34))) (.int 1))
abbrev X174:E:=.var 76
abbrev X175:E:=.fn 105 (.pr X174 (.pr X80 (.pr X34 X171)))
abbrev X176:E:=.and X97 X19
abbrev X177:E:=.and X96 X176
abbrev X178:E:=.and X95 X177
abbrev X179:E:=.and X94 X178
abbrev X180:E:=.and X93 X179
abbrev X181:E:=.and X108 X180
abbrev X182:E:=.pr X170 (.int 0)
abbrev X183:E:=.cmp .eql X117 (.fn 1 (.pr (.fn 1 (.pr X80 X34)) (.fn 7 (.pr (.fn 0 (.fn 1 (.pr X80 X34))) (.int 1)))))
abbrev X184:E:=.fn 105 (.pr X171 (.pr X80 (.pr X34 X117)))
abbrev X185:E:=.pr (.var 37) (.var 36)
abbrev X186:E:=.pr (.var 34) X185
abbrev X187:E:=.pr (.fn 1 (.pr X1 (.fn 6 (.pr (.fn 8 (.pr X0 (.int 4))) (.int 1))))) X186
abbrev X188:E:=.pr X33 X187
abbrev X189:E:=.fn 111 (.pr X80 X188)
abbrev X190:E:=.and X189 X98
abbrev X191:E:=.and X95 X190
abbrev X192:E:=.and X94 X191
abbrev X193:E:=.and X82 X98
abbrev X194:E:=.and X95 X193
abbrev X195:E:=.and X94 X194
abbrev X196:E:=.fn 113 (.pr (.var 66) X48)
abbrev X197:E:=.cmp .eql (.fn 0 (.var 66)) (.var 67)
abbrev X198:E:=.cmp .eql (.fn 0 X33) X7
abbrev X199:E:=.and X94 (.and X95 (.and X189 X198))
abbrev X200:E:=.and X93 X199
abbrev X201:E:=.and X116 (.and X196 (.and X197 (.and (.not (.cmp .lss (.var 67) (.int 1))) X200)))
abbrev X202:E:=.var 78
abbrev X203:E:=.pr X202 (.pr X174 X34)
abbrev X204:E:=.fn 115 X203
abbrev X205:E:=.var 79
abbrev X206:E:=.and X97 X83
abbrev X207:E:=.and X96 X206
abbrev X208:E:=.and X82 X207
abbrev X209:E:=.and X95 X208
abbrev X210:E:=.and X94 X209
abbrev X211:E:=.and X173 X100
abbrev X212:E:=.var 77
abbrev X213:E:=.pr X212 (.pr X171 X34)
abbrev X214:E:=.fn 115 X213
abbrev X215:E:=.and X160 (.and X168 (.and X153 (.and X50 X200)))
abbrev X216:E:=.cmp .eql X135 (.fn 1 (.pr (.fn 1 (.pr X80 X34)) (.fn 7 (.pr (.fn 0 (.fn 1 (.pr X80 X34))) (.int 1)))))
abbrev X217:E:=.fn 105 (.pr X117 (.pr X80 (.pr X34 X135)))
abbrev X218:E:=.pr X174 (.pr X117 X34)
abbrev X219:E:=.fn 115 X218
abbrev X220:E:=.and X94 (.and X95 X198)
abbrev X221:E:=.and X189 X220
abbrev X222:E:=.and X93 X221
abbrev X223:E:=.pr (.fn 1 (.pr X1 (.fn 6 (.pr (.fn 8 (.pr X0 (.int 4))) (.int 1))))) (.int 0)
abbrev X224:E:=.cmp .eql (.var 36) (.int 0)
abbrev X225:E:=.cmp .eql (.fn 0 X85) (.fn 0 (.fn 1 (.pr X33 X34)))
abbrev X226:E:=.pr (.fn 1 (.pr X33 X34)) (.fn 0 X85)
abbrev X227:E:=.pr X85 X226
abbrev X228:E:=.fn 114 X227
abbrev X229:E:=.and X225 X228
abbrev X230:E:=.iff X135 X229
abbrev X231:E:=.iff X117 X229
def F93:E:=(.imp (.and X2 (.and (.not (.cmp .lss X0 (.fn 109 X3))) X5)) (.not (.cmp .lss (.int 100) (.fn 109 X3))))
theorem G93:Tr F93:=ii3 fun ρ p0 p1 p2=>by
 try simp only [smA,smW] at *
 grind
def F94:E:=(.imp (.and (.not X8) (.and X9 X13)) (.fn 110 (.pr X10 (.pr X3 X7))))
theorem G94:Tr F94:=ii3 fun ρ p0 p1 p2=>by
 have:=@t110_eq ρ _ _ _ X7 p2
 try simp only [smA,smW] at *
 grind
def F95:E:=(.imp (.and X8 (.and (.fn 115 (.pr (.fn 10 (.int 0)) X11)) X23)) (.fn 110 (.pr (.fn 2 (.pr X10 (.pr X6 (.fn 30 (.int 0))))) (.pr X3 X24))))
theorem G95:Tr F95:=ii7 fun ρ p0 p1 p2 p3 p4 p5 p6=>by
 have:=@wrap_add ρ X6 (.int 1)
 have:=@t110_stepN ρ _ _ (.int 0) _ _ X24 p3 p1
 try simp only [smA,smW] at *
 grind
def F96:E:=(.imp X27 (.fn 110 (.pr (.fn 2 (.pr X10 (.pr X6 (.var 18)))) (.pr X3 X24))))
theorem G96:Tr F96:=ii7 fun ρ p0 p1 p2 p3 p4 p5 p6=>by
 have:=@wrap_add ρ X6 (.int 1)
 have:=@t110_stepV ρ _ _ _ _ X24 p3 p1
 try simp only [smA,smW] at *
 grind
def F97:E:=(.imp X27 (.fn 110 (.pr (.fn 2 (.pr X10 (.pr X6 (.fn 28 (.pr (.pr (.var 21) (.var 19)) (.var 18)))))) (.pr X3 X24))))
theorem G97:Tr F97:=ii7 fun ρ p0 p1 p2 p3 p4 p5 p6=>by
 have:=@wrap_add ρ X6 (.int 1)
 have:=@t110_step28 ρ _ _ _ (.pr (.var 21) (.var 19)) _ X24 p3 p1
 try simp only [smA,smW] at *
 grind
def F98:E:=(.imp X29 (.not (.cmp .lss X24 (.int 0))))
theorem G98:Tr F98:=ii3 fun ρ p0 p1 p2=>by
 try simp only [smA,smW] at *
 obtain ⟨a7,ea7,qa7⟩:=cs_i64 ((E.I ρ X6) + (1))
 try simp only [ea7] at *
 grind
def F99:E:=(.imp X31 (.not (.cmp .lss X7 X24)))
theorem G99:Tr F99:=ii4 fun ρ p0 p1 p2 p3=>by
 try simp only [smA,smW] at *
 obtain ⟨a7,ea7,qa7⟩:=cs_i64 ((E.I ρ X6) + (1))
 try simp only [ea7] at *
 grind
def F100:E:=(.imp X29 (.cmp .lss (.fn 7 (.pr X7 X24)) (.fn 7 (.pr X7 X6))))
theorem G100:Tr F100:=ii3 fun ρ p0 p1 p2=>by
 try simp only [smA,smW] at *
 obtain ⟨a7,ea7,qa7⟩:=cs_i64 ((E.I ρ X6) + (1))
 try simp only [ea7] at *
 grind
def F101:E:=(.imp X31 (.not (.cmp .lss (.fn 7 (.pr X7 X24)) (.int 0))))
theorem G101:Tr F101:=ii4 fun ρ p0 p1 p2 p3=>by
 try simp only [smA,smW] at *
 obtain ⟨a7,ea7,qa7⟩:=cs_i64 ((E.I ρ X6) + (1))
 try simp only [ea7] at *
 grind
namespace l0
def facts:List E:=[F93,F94,F95,F96,F97,F98,F99,F100,F101]
theorem facts_ok:∀ e∈facts,Tr e:=(ac G93 (ac G94 (ac G95 (ac G96 (ac G97 (ac G98 (ac G99 (ac G100 (ac G101 all_nil)))))))))
end l0
theorem body0_0_0:BodyOk Try.prog (annB (some yB)) yB (tB).less (tB).tmps { (tB).st with pc:=(tB).st.pc } :=
 body_of_check good (facts:=l0.facts) l0.facts_ok (anns:=[]) (plainAnns_ok _ (by kernel_rfl)) (nats:=natl17) natl17_ok (n:=3000) (by kernel_rfl) (by kernel_rfl)
theorem body0_0:BodyOk Try.prog (annB (some yB)) yB (tB).less (tB).tmps (tB).st:=body0_0_0
theorem loop0:LoopOk Try.prog (annB (some yB)):=loop_of_bodies rfl (by kernel_rfl) (by
 intro τ hτ
 rcases List.mem_cons.1 hτ with rfl | hτ
 ·exact body0_0
 cases hτ)
def F102:E:=(.imp X40 (.not (.cmp .lss X41 (.int 0))))
theorem G102:Tr F102:=ii3 fun ρ p0 p1 p2=>by
 try simp only [smA,smW] at *
 obtain ⟨a13,ea13,qa13⟩:=cs_i64 ((E.I ρ X32) + (1))
 try simp only [ea13] at *
 grind
def F103:E:=(.imp (.and (.not X35) (.and X45 X47)) X50)
theorem G103:Tr F103:=ii3 fun ρ p0 p1 p2=>by
 have:=@t113_eq ρ _ _ _ (.fn 0 (.fn 1 (.pr X33 X34))) _ p1
 try simp only [smA,smW] at *
 grind
def F104:E:=(.imp X53 X55)
theorem G104:Tr F104:=ii4 fun ρ p0 p1 p2 p3=>by
 try simp only [smA,smW] at *
 obtain ⟨a13,ea13,qa13⟩:=cs_i64 ((E.I ρ X32) + (1))
 try simp only [ea13] at *
 grind
def F105:E:=(.imp X40 (.not (.cmp .lss X41 (.int 1))))
theorem G105:Tr F105:=ii3 fun ρ p0 p1 p2=>by
 try simp only [smA,smW] at *
 obtain ⟨a13,ea13,qa13⟩:=cs_i64 ((E.I ρ X32) + (1))
 try simp only [ea13] at *
 grind
def F106:E:=(.imp (.and X35 (.and X56 X57)) (.fn 113 (.pr (.fn 10 (.int 0)) X58)))
theorem G106:Tr F106:=ii5 fun ρ p0 p1 p2 p3 p4=>by
 have:=@wrap_add ρ X32 (.int 1)
 have:=@t113_skip ρ _ _ _ X41 _ p2
 try simp only [smA,smW] at *
 grind
def F107:E:=(.imp (.and X35 (.and (.not X56) X57)) (.fn 113 (.pr (.fn 23 (.pr (.fn 1 (.pr (.fn 1 (.pr X33 X34)) X32)) (.fn 10 (.int 0)))) X58)))
theorem G107:Tr F107:=ii5 fun ρ p0 p1 p2 p3 p4=>by
 have:=@wrap_add ρ X32 (.int 1)
 have:=@t113_one ρ _ (.int 0) _ _ X41 _ p2
 try simp only [smA,smW] at *
 grind
def F108:E:=(.imp X40 X59)
theorem G108:Tr F108:=ii3 fun ρ p0 p1 p2=>by
 try simp only [smA,smW] at *
 obtain ⟨a12,ea12,qa12⟩:=cs_i64 ((E.I ρ X32) + (1))
 try simp only [ea12] at *
 grind
def F109:E:=(.imp X53 X61)
theorem G109:Tr F109:=ii4 fun ρ p0 p1 p2 p3=>by
 try simp only [smA,smW] at *
 obtain ⟨a12,ea12,qa12⟩:=cs_i64 ((E.I ρ X32) + (1))
 try simp only [ea12] at *
 grind
namespace l1_0
def facts:List E:=[F102,F103,F104,F105,F106,F107,F108,F109]
theorem facts_ok:∀ e∈facts,Tr e:=(ac G102 (ac G103 (ac G104 (ac G105 (ac G106 (ac G107 (ac G108 (ac G109 all_nil))))))))
end l1_0
theorem body1_0_0:BodyOk Try.prog (annX (some yX)) yX (tX false).less (tX false).tmps { (tX false).st with pc:=(tX false).st.pc } :=
 body_of_check good (facts:=l1_0.facts) l1_0.facts_ok (anns:=[]) (plainAnns_ok _ (by kernel_rfl)) (nats:=natl17) natl17_ok (n:=3000) (by kernel_rfl) (by kernel_rfl)
theorem body1_0:BodyOk Try.prog (annX (some yX)) yX (tX false).less (tX false).tmps (tX false).st:=body1_0_0
def F110:E:=(.imp (.and (.not (.cmp .lss (.var 52) X62)) X64) (.not (.cmp .lss (.var 52) (.int 0))))
theorem G110:Tr F110:=ii2 fun ρ p0 p1=>by
 try simp only [smA,smW] at *
 grind
def F111:E:=(.imp (.and X66 X67) (.not (.cmp .lss (.int 100) X62)))
theorem G111:Tr F111:=ii3 fun ρ p0 p1 p2=>by
 try simp only [smA,smW] at *
 grind
def F112:E:=(.imp (.and X35 (.and X66 X36)) (.not (.cmp .lss (.int 2147483648) (.fn 6 (.pr X62 (.int 1))))))
theorem G112:Tr F112:=ii3 fun ρ p0 p1 p2=>by
 try simp only [smA,smW] at *
 grind
def F113:E:=(.imp X70 X55)
theorem G113:Tr F113:=ii5 fun ρ p0 p1 p2 p3 p4=>by
 try simp only [smA,smW] at *
 obtain ⟨a15,ea15,qa15⟩:=cs_i64 ((E.I ρ X32) + (1))
 try simp only [ea15] at *
 grind
def F114:E:=(.imp (.and (.not X35) (.and X73 X47)) (.fn 113 (.pr X71 X48)))
theorem G114:Tr F114:=ii3 fun ρ p0 p1 p2=>by
 have:=@t113_eq ρ _ _ _ (.fn 0 (.fn 1 (.pr X33 X34))) _ p1
 try simp only [smA,smW] at *
 grind
def F115:E:=(.imp X76 (.not (.cmp .lss X41 X62)))
theorem G115:Tr F115:=ii4 fun ρ p0 p1 p2 p3=>by
 try simp only [smA,smW] at *
 obtain ⟨a15,ea15,qa15⟩:=cs_i64 ((E.I ρ X32) + (1))
 try simp only [ea15] at *
 grind
def F116:E:=(.imp (.and X35 (.and X56 X79)) (.fn 113 (.pr X71 X58)))
theorem G116:Tr F116:=ii7 fun ρ p0 p1 p2 p3 p4 p5 p6=>by
 have:=@wrap_add ρ X32 (.int 1)
 have:=@t113_skip ρ _ _ _ X41 _ p2
 try simp only [smA,smW] at *
 grind
def F117:E:=(.imp (.cmp .eql (.fn 0 X71) X62) (.cmp .eql (.fn 6 (.pr (.fn 0 X71) (.int 1))) (.fn 6 (.pr X62 (.int 1)))))
theorem G117:Tr F117:=ii1 fun ρ p0=>by
 try simp only [smA,smW] at *
 grind
def F118:E:=(.imp X76 X59)
theorem G118:Tr F118:=ii4 fun ρ p0 p1 p2 p3=>by
 try simp only [smA,smW] at *
 obtain ⟨a15,ea15,qa15⟩:=cs_i64 ((E.I ρ X32) + (1))
 try simp only [ea15] at *
 grind
def F119:E:=(.imp X76 (.not (.cmp .lss X41 (.fn 6 (.pr X62 (.int 1))))))
theorem G119:Tr F119:=ii4 fun ρ p0 p1 p2 p3=>by
 try simp only [smA,smW] at *
 obtain ⟨a16,ea16,qa16⟩:=cs_i64 ((E.I ρ X32) + (1))
 try simp only [ea16] at *
 grind
def F120:E:=(.imp X70 X61)
theorem G120:Tr F120:=ii5 fun ρ p0 p1 p2 p3 p4=>by
 try simp only [smA,smW] at *
 obtain ⟨a15,ea15,qa15⟩:=cs_i64 ((E.I ρ X32) + (1))
 try simp only [ea15] at *
 grind
def F121:E:=(.imp (.and X35 (.and (.not X56) X79)) (.fn 113 (.pr (.fn 3 (.pr X71 (.fn 23 (.pr (.fn 1 (.pr (.fn 1 (.pr X33 X34)) X32)) (.fn 10 (.int 0)))))) X58)))
theorem G121:Tr F121:=ii7 fun ρ p0 p1 p2 p3 p4 p5 p6=>by
 have:=@wrap_add ρ X32 (.int 1)
 have:=@t113_more ρ _ _ (.int 0) _ X41 _ p2
 try simp only [smA,smW] at *
 grind
namespace l1_1
def facts:List E:=[F110,F102,F111,F112,F113,F114,F115,F116,F117,F118,F119,F120,F121]
theorem facts_ok:∀ e∈facts,Tr e:=(ac G110 (ac G102 (ac G111 (ac G112 (ac G113 (ac G114 (ac G115 (ac G116 (ac G117 (ac G118 (ac G119 (ac G120 (ac G121 all_nil)))))))))))))
end l1_1
theorem body1_1_0:BodyOk Try.prog (annX (some yX)) yX (tX true).less (tX true).tmps { (tX true).st with pc:=(tX true).st.pc } :=
 body_of_check good (facts:=l1_1.facts) l1_1.facts_ok (anns:=[]) (plainAnns_ok _ (by kernel_rfl)) (nats:=natl17) natl17_ok (n:=3000) (by kernel_rfl) (by kernel_rfl)
theorem body1_1:BodyOk Try.prog (annX (some yX)) yX (tX true).less (tX true).tmps (tX true).st:=body1_1_0
theorem loop1:LoopOk Try.prog (annX (some yX)):=loop_of_bodies rfl (by kernel_rfl) (by
 intro τ hτ
 rcases List.mem_cons.1 hτ with rfl | hτ
 ·exact body1_0
 rcases List.mem_cons.1 hτ with rfl | hτ
 ·exact body1_1
 cases hτ)
def F122:E:=(.imp (.and X82 X83) (.not (.cmp .lss (.int 100) (.fn 109 X80))))
theorem G122:Tr F122:=ii3 fun ρ p0 p1 p2=>by
 try simp only [smA,smW] at *
 grind
def F123:E:=(.imp (.and X86 (.and X90 (.and X92 X101))) X102)
theorem G123:Tr F123:=ii8 fun ρ p0 p1 p2 p3 p4 p5 p6 p7=>by
 have:=@t112_unseen ρ _ _ _ _ _ _ p7 p1 p3
 try simp only [smA,smW] at *
 grind
def F124:E:=(.imp (.and (.not X86) (.and X90 X104)) X108)
theorem G124:Tr F124:=ii3 fun ρ p0 p1 p2=>by
 have:=@t112_eq ρ _ _ _ (.fn 0 X85) _ p1
 try simp only [smA,smW] at *
 grind
def F125:E:=(.imp (.and (.not X86) (.and X112 X104)) X116)
theorem G125:Tr F125:=ii3 fun ρ p0 p1 p2=>by
 have:=@t113_eq ρ _ _ _ (.fn 0 X85) _ p1
 try simp only [smA,smW] at *
 grind
def F126:E:=(.imp (.and X92 X130) X117)
theorem G126:Tr F126:=ii8 fun ρ p0 p1 p2 p3 p4 p5 p6 p7=>by
 have:=@t_at ρ _ _ X84 _ _ p5 p1
 try simp only [smA,smW] at *
 grind
def F127:E:=(.imp (.and X86 X133) (.not (.cmp .lss X134 (.int 0))))
theorem G127:Tr F127:=ii3 fun ρ p0 p1 p2=>by
 try simp only [smA,smW] at *
 obtain ⟨a15,ea15,qa15⟩:=cs_i64 ((E.I ρ X84) + (1))
 try simp only [ea15] at *
 grind
def F128:E:=(.imp (.and X92 X142) X135)
theorem G128:Tr F128:=ii8 fun ρ p0 p1 p2 p3 p4 p5 p6 p7=>by
 have:=@t_at ρ _ _ X84 _ _ p5 p1
 try simp only [smA,smW] at *
 grind
def F129:E:=(.imp X144 (.not (.cmp .lss (.fn 0 X85) X134)))
theorem G129:Tr F129:=ii4 fun ρ p0 p1 p2 p3=>by
 try simp only [smA,smW] at *
 obtain ⟨a15,ea15,qa15⟩:=cs_i64 ((E.I ρ X84) + (1))
 try simp only [ea15] at *
 grind
def F130:E:=(.imp (.and X86 (.and X90 (.and X92 (.and X132 X101)))) (.fn 112 (.pr (.fn 34 (.pr X87 (.pr (.fn 1 (.pr X85 X84)) (.bool true)))) (.pr X80 (.pr X34 X134)))))
theorem G130:Tr F130:=ii9 fun ρ p0 p1 p2 p3 p4 p5 p6 p7 p8=>by
 have:=@wrap_add ρ X84 (.int 1)
 have:=@t112_step ρ _ _ _ _ X134 _ (.bool true) _ p8 p1 p4
 try simp only [smA,smW] at *
 grind
def F131:E:=(.imp (.and X86 X133) (.not (.cmp .lss X134 (.int 1))))
theorem G131:Tr F131:=ii3 fun ρ p0 p1 p2=>by
 try simp only [smA,smW] at *
 obtain ⟨a15,ea15,qa15⟩:=cs_i64 ((E.I ρ X84) + (1))
 try simp only [ea15] at *
 grind
def F132:E:=(.imp (.and X86 (.and X145 X146)) (.fn 113 (.pr (.fn 10 (.int 0)) X148)))
theorem G132:Tr F132:=ii5 fun ρ p0 p1 p2 p3 p4=>by
 have:=@wrap_add ρ X84 (.int 1)
 have:=@t113_skip ρ _ _ _ X134 _ p2
 try simp only [smA,smW] at *
 grind
def F133:E:=(.imp (.and X86 (.and (.not X145) X146)) (.fn 113 (.pr (.fn 23 (.pr (.fn 1 (.pr X85 X84)) (.fn 10 (.int 0)))) X148)))
theorem G133:Tr F133:=ii5 fun ρ p0 p1 p2 p3 p4=>by
 have:=@wrap_add ρ X84 (.int 1)
 have:=@t113_one ρ _ (.int 0) _ _ X134 _ p2
 try simp only [smA,smW] at *
 grind
def F134:E:=(.imp (.and X86 X133) X149)
theorem G134:Tr F134:=ii3 fun ρ p0 p1 p2=>by
 try simp only [smA,smW] at *
 obtain ⟨a14,ea14,qa14⟩:=cs_i64 ((E.I ρ X84) + (1))
 try simp only [ea14] at *
 grind
def F135:E:=(.imp X144 X151)
theorem G135:Tr F135:=ii4 fun ρ p0 p1 p2 p3=>by
 try simp only [smA,smW] at *
 obtain ⟨a14,ea14,qa14⟩:=cs_i64 ((E.I ρ X84) + (1))
 try simp only [ea14] at *
 grind
namespace l2_0
def facts:List E:=[F122,F123,F124,F125,F126,F127,F128,F129,F130,F131,F132,F133,F134,F135]
theorem facts_ok:∀ e∈facts,Tr e:=(ac G122 (ac G123 (ac G124 (ac G125 (ac G126 (ac G127 (ac G128 (ac G129 (ac G130 (ac G131 (ac G132 (ac G133 (ac G134 (ac G135 all_nil))))))))))))))
end l2_0
theorem body2_0_0:BodyOk Try.prog (annY (some yY)) yY (tY false false).less (tY false false).tmps { (tY false false).st with pc:=(tY false false).st.pc } :=
 body_of_check good (facts:=l2_0.facts) l2_0.facts_ok (anns:=[]) (plainAnns_ok _ (by kernel_rfl)) (nats:=natl17) natl17_ok (n:=3000) (by kernel_rfl) (by kernel_rfl)
theorem body2_0:BodyOk Try.prog (annY (some yY)) yY (tY false false).less (tY false false).tmps (tY false false).st:=body2_0_0
def F136:E:=(.imp (.and (.not (.cmp .lss (.var 71) X152)) X153) (.not (.cmp .lss (.var 71) (.int 0))))
theorem G136:Tr F136:=ii2 fun ρ p0 p1=>by
 try simp only [smA,smW] at *
 grind
def F137:E:=(.imp (.and X86 (.and X154 (.and X153 (.and X90 X101)))) X102)
theorem G137:Tr F137:=ii9 fun ρ p0 p1 p2 p3 p4 p5 p6 p7 p8=>by
 have:=@t112_unseen ρ _ _ _ _ _ _ p8 p3 p4
 try simp only [smA,smW] at *
 grind
def F138:E:=(.imp (.and X86 (.and X154 X132)) (.not (.cmp .lss (.int 2147483648) (.fn 6 (.pr X152 (.int 1))))))
theorem G138:Tr F138:=ii3 fun ρ p0 p1 p2=>by
 try simp only [smA,smW] at *
 grind
def F139:E:=(.imp (.and X154 X155) (.not (.cmp .lss (.int 100) X152)))
theorem G139:Tr F139:=ii3 fun ρ p0 p1 p2=>by
 try simp only [smA,smW] at *
 grind
def F140:E:=(.imp (.and X154 (.and X153 X142)) X135)
theorem G140:Tr F140:=ii9 fun ρ p0 p1 p2 p3 p4 p5 p6 p7 p8=>by
 have:=@t_at ρ _ _ X84 _ _ p6 p2
 try simp only [smA,smW] at *
 grind
def F141:E:=(.imp (.and (.not X86) (.and X158 X104)) X160)
theorem G141:Tr F141:=ii3 fun ρ p0 p1 p2=>by
 have:=@t113_eq ρ _ _ _ (.fn 0 X85) _ p1
 try simp only [smA,smW] at *
 grind
def F142:E:=(.imp (.and X154 (.and X153 X130)) X117)
theorem G142:Tr F142:=ii9 fun ρ p0 p1 p2 p3 p4 p5 p6 p7 p8=>by
 have:=@t_at ρ _ _ X84 _ _ p6 p2
 try simp only [smA,smW] at *
 grind
def F143:E:=(.imp X163 (.not (.cmp .lss (.fn 0 X85) X134)))
theorem G143:Tr F143:=ii5 fun ρ p0 p1 p2 p3 p4=>by
 try simp only [smA,smW] at *
 obtain ⟨a17,ea17,qa17⟩:=cs_i64 ((E.I ρ X84) + (1))
 try simp only [ea17] at *
 grind
def F144:E:=(.imp X166 (.not (.cmp .lss X134 X152)))
theorem G144:Tr F144:=ii4 fun ρ p0 p1 p2 p3=>by
 try simp only [smA,smW] at *
 obtain ⟨a17,ea17,qa17⟩:=cs_i64 ((E.I ρ X84) + (1))
 try simp only [ea17] at *
 grind
def F145:E:=(.imp (.and X86 (.and X145 X167)) (.fn 113 (.pr X156 X148)))
theorem G145:Tr F145:=ii7 fun ρ p0 p1 p2 p3 p4 p5 p6=>by
 have:=@wrap_add ρ X84 (.int 1)
 have:=@t113_skip ρ _ _ _ X134 _ p2
 try simp only [smA,smW] at *
 grind
def F146:E:=(.imp X168 (.cmp .eql (.fn 6 (.pr (.fn 0 X156) (.int 1))) (.fn 6 (.pr X152 (.int 1)))))
theorem G146:Tr F146:=ii1 fun ρ p0=>by
 try simp only [smA,smW] at *
 grind
def F147:E:=(.imp X166 X149)
theorem G147:Tr F147:=ii4 fun ρ p0 p1 p2 p3=>by
 try simp only [smA,smW] at *
 obtain ⟨a17,ea17,qa17⟩:=cs_i64 ((E.I ρ X84) + (1))
 try simp only [ea17] at *
 grind
def F148:E:=(.imp X166 (.not (.cmp .lss X134 (.fn 6 (.pr X152 (.int 1))))))
theorem G148:Tr F148:=ii4 fun ρ p0 p1 p2 p3=>by
 try simp only [smA,smW] at *
 obtain ⟨a18,ea18,qa18⟩:=cs_i64 ((E.I ρ X84) + (1))
 try simp only [ea18] at *
 grind
def F149:E:=(.imp X163 X151)
theorem G149:Tr F149:=ii5 fun ρ p0 p1 p2 p3 p4=>by
 try simp only [smA,smW] at *
 obtain ⟨a17,ea17,qa17⟩:=cs_i64 ((E.I ρ X84) + (1))
 try simp only [ea17] at *
 grind
def F150:E:=(.imp (.and X86 (.and (.not X145) X167)) (.fn 113 (.pr (.fn 3 (.pr X156 (.fn 23 (.pr (.fn 1 (.pr X85 X84)) (.fn 10 (.int 0)))))) X148)))
theorem G150:Tr F150:=ii7 fun ρ p0 p1 p2 p3 p4 p5 p6=>by
 have:=@wrap_add ρ X84 (.int 1)
 have:=@t113_more ρ _ _ (.int 0) _ X134 _ p2
 try simp only [smA,smW] at *
 grind
namespace l2_1
def facts:List E:=[F136,F122,F137,F124,F138,F139,F140,F127,F141,F142,F143,F130,F144,F145,F146,F147,F148,F149,F150]
theorem facts_ok:∀ e∈facts,Tr e:=(ac G136 (ac G122 (ac G137 (ac G124 (ac G138 (ac G139 (ac G140 (ac G127 (ac G141 (ac G142 (ac G143 (ac G130 (ac G144 (ac G145 (ac G146 (ac G147 (ac G148 (ac G149 (ac G150 all_nil)))))))))))))))))))
end l2_1
theorem body2_1_0:BodyOk Try.prog (annY (some yY)) yY (tY false true).less (tY false true).tmps { (tY false true).st with pc:=(tY false true).st.pc } :=
 body_of_check good (facts:=l2_1.facts) l2_1.facts_ok (anns:=[]) (plainAnns_ok _ (by kernel_rfl)) (nats:=natl17) natl17_ok (n:=3000) (by kernel_rfl) (by kernel_rfl)
theorem body2_1:BodyOk Try.prog (annY (some yY)) yY (tY false true).less (tY false true).tmps (tY false true).st:=body2_1_0
namespace l2_2
def facts:List E:=[F122,F123,F124,F125,F126,F127,F128,F129,F130,F131,F132,F133,F134,F135]
theorem facts_ok:∀ e∈facts,Tr e:=(ac G122 (ac G123 (ac G124 (ac G125 (ac G126 (ac G127 (ac G128 (ac G129 (ac G130 (ac G131 (ac G132 (ac G133 (ac G134 (ac G135 all_nil))))))))))))))
end l2_2
theorem body2_2_0:BodyOk Try.prog (annY (some yY)) yY (tY true false).less (tY true false).tmps { (tY true false).st with pc:=(tY true false).st.pc } :=
 body_of_check good (facts:=l2_2.facts) l2_2.facts_ok (anns:=[]) (plainAnns_ok _ (by kernel_rfl)) (nats:=natl17) natl17_ok (n:=3000) (by kernel_rfl) (by kernel_rfl)
theorem body2_2:BodyOk Try.prog (annY (some yY)) yY (tY true false).less (tY true false).tmps (tY true false).st:=body2_2_0
namespace l2_3
def facts:List E:=[F136,F122,F137,F124,F138,F139,F140,F127,F141,F142,F143,F130,F144,F145,F146,F147,F148,F149,F150]
theorem facts_ok:∀ e∈facts,Tr e:=(ac G136 (ac G122 (ac G137 (ac G124 (ac G138 (ac G139 (ac G140 (ac G127 (ac G141 (ac G142 (ac G143 (ac G130 (ac G144 (ac G145 (ac G146 (ac G147 (ac G148 (ac G149 (ac G150 all_nil)))))))))))))))))))
end l2_3
theorem body2_3_0:BodyOk Try.prog (annY (some yY)) yY (tY true true).less (tY true true).tmps { (tY true true).st with pc:=(tY true true).st.pc } :=
 body_of_check good (facts:=l2_3.facts) l2_3.facts_ok (anns:=[]) (plainAnns_ok _ (by kernel_rfl)) (nats:=natl17) natl17_ok (n:=3000) (by kernel_rfl) (by kernel_rfl)
theorem body2_3:BodyOk Try.prog (annY (some yY)) yY (tY true true).less (tY true true).tmps (tY true true).st:=body2_3_0
theorem loop2:LoopOk Try.prog (annY (some yY)):=loop_of_bodies rfl (by kernel_rfl) (by
 intro τ hτ
 rcases List.mem_cons.1 hτ with rfl | hτ
 ·exact body2_0
 rcases List.mem_cons.1 hτ with rfl | hτ
 ·exact body2_1
 rcases List.mem_cons.1 hτ with rfl | hτ
 ·exact body2_2
 rcases List.mem_cons.1 hτ with rfl | hτ
 ·exact body2_3
 cases hτ)
def F151:E:=(.imp X169 (.not (.cmp .lss (.fn 7 (.pr X7 X170)) (.int 0))))
theorem G151:Tr F151:=ii3 fun ρ p0 p1 p2=>by
 try simp only [smA,smW] at *
 obtain ⟨a24,ea24,qa24⟩:=cs_i64 ((E.I ρ X34) + (1))
 try simp only [ea24] at *
 grind
def F152:E:=(.imp X169 (.cmp .lss (.fn 7 (.pr X7 X170)) (.fn 7 (.pr X7 X34))))
theorem G152:Tr F152:=ii3 fun ρ p0 p1 p2=>by
 try simp only [smA,smW] at *
 obtain ⟨a24,ea24,qa24⟩:=cs_i64 ((E.I ρ X34) + (1))
 try simp only [ea24] at *
 grind
def F153:E:=(.imp (.and X172 (.and X173 (.and X175 X181))) (.fn 112 (.pr X87 (.pr X174 X182))))
theorem G153:Tr F153:=ii10 fun ρ p0 p1 p2 p3 p4 p5 p6 p7 p8 p9=>by
 have:=@wrap_add ρ X34 (.int 1)
 have:=fun e1 e2 e3 e4 e5 e6 e7 e8=>@t112_con ρ _ _ _ _ _ (@t112_next ρ _ _ (.int 0) _ _ X170 _ p3 p4 e1 e2 e3 e4 e5) (@t_top ρ _ _ _ (.fn 7 (.pr (.fn 0 (.fn 1 (.pr X80 X34))) (.int 1))) _ _ p8 p2 e1 e2 e6 e7 e8)
 try simp only [smA,smW] at *
 grind
def F154:E:=(.imp X169 (.not (.cmp .lss X7 X170)))
theorem G154:Tr F154:=ii3 fun ρ p0 p1 p2=>by
 try simp only [smA,smW] at *
 obtain ⟨a24,ea24,qa24⟩:=cs_i64 ((E.I ρ X34) + (1))
 try simp only [ea24] at *
 grind
def F155:E:=(.imp (.and X183 (.and X173 (.and X184 X181))) (.fn 112 (.pr X87 (.pr X171 X182))))
theorem G155:Tr F155:=ii10 fun ρ p0 p1 p2 p3 p4 p5 p6 p7 p8 p9=>by
 have:=@wrap_add ρ X34 (.int 1)
 have:=fun e1 e2 e3 e4 e5 e6 e7 e8=>@t112_con ρ _ _ _ _ _ (@t112_next ρ _ _ (.int 0) _ _ X170 _ p3 p4 e1 e2 e3 e4 e5) (@t_top ρ _ _ _ (.fn 7 (.pr (.fn 0 (.fn 1 (.pr X80 X34))) (.int 1))) _ _ p8 p2 e1 e2 e6 e7 e8)
 try simp only [smA,smW] at *
 grind
def F156:E:=(.imp X169 (.not (.cmp .lss X170 (.int 0))))
theorem G156:Tr F156:=ii3 fun ρ p0 p1 p2=>by
 try simp only [smA,smW] at *
 obtain ⟨a24,ea24,qa24⟩:=cs_i64 ((E.I ρ X34) + (1))
 try simp only [ea24] at *
 grind
def F157:E:=(.imp (.and X172 (.and X173 (.and X175 X192))) (.fn 111 (.pr X174 X188)))
theorem G157:Tr F157:=ii8 fun ρ p0 p1 p2 p3 p4 p5 p6 p7=>by
 have:=fun e1 e2 e3 e4 e5=>@t111_con ρ _ _ _ _ _ _ _ p5 (@t_top ρ _ _ _ (.fn 7 (.pr (.fn 0 (.fn 1 (.pr X80 X34))) (.int 1))) _ _ p7 p2 e1 e2 e3 e4 e5)
 try simp only [smA,smW] at *
 grind
def F158:E:=(.imp (.and X172 (.and X173 (.and X175 X195))) (.not (.cmp .lss (.fn 6 (.pr X0 (.int 1))) (.fn 109 X174))))
theorem G158:Tr F158:=ii8 fun ρ p0 p1 p2 p3 p4 p5 p6 p7=>by
 have:=fun e1 e2 e3 e4 e5=>@t109_con ρ _ _ (@t_top ρ _ _ _ (.fn 7 (.pr (.fn 0 (.fn 1 (.pr X80 X34))) (.int 1))) _ _ p7 p2 e1 e2 e3 e4 e5)
 try simp only [smA,smW] at *
 grind
def F159:E:=(.imp (.and X183 (.and X173 (.and X184 X192))) (.fn 111 (.pr X171 X188)))
theorem G159:Tr F159:=ii8 fun ρ p0 p1 p2 p3 p4 p5 p6 p7=>by
 have:=fun e1 e2 e3 e4 e5=>@t111_con ρ _ _ _ _ _ _ _ p5 (@t_top ρ _ _ _ (.fn 7 (.pr (.fn 0 (.fn 1 (.pr X80 X34))) (.int 1))) _ _ p7 p2 e1 e2 e3 e4 e5)
 try simp only [smA,smW] at *
 grind
def F160:E:=(.imp X201 (.var 82))
theorem G160:Tr F160:=ii9 fun ρ p0 p1 p2 p3 p4 p5 p6 p7 p8=>by
 have hnl:E.I ρ (.fn 0 (.fn 10 (.int 0)))=0:=rfl
 have:=fun e1 e2 e3 e4=>@t_ints_len ρ _ _ (.int 0) (@t_xy ρ _ _ _ _ _ _ _ _ _ _ _ _ p7 p4 e1 e2 p1 e3 p0 e4)
 try simp only [smA,smW] at *
 grind
def F161:E:=(.imp (.and X108 (.and X93 (.and X94 (.and X95 (.and X96 X19))))) (.fn 112 (.pr X87 (.pr X80 X182))))
theorem G161:Tr F161:=ii6 fun ρ p0 p1 p2 p3 p4 p5=>by
 have:=@wrap_add ρ X34 (.int 1)
 have:=@t112_next ρ _ _ (.int 0) _ _ X170 _ p0 p1
 try simp only [smA,smW] at *
 grind
def F162:E:=(.imp (.and X183 (.and X173 (.and X184 X195))) (.not (.cmp .lss (.fn 6 (.pr X0 (.int 1))) (.fn 109 X171))))
theorem G162:Tr F162:=ii8 fun ρ p0 p1 p2 p3 p4 p5 p6 p7=>by
 have:=fun e1 e2 e3 e4 e5=>@t109_con ρ _ _ (@t_top ρ _ _ _ (.fn 7 (.pr (.fn 0 (.fn 1 (.pr X80 X34))) (.int 1))) _ _ p7 p2 e1 e2 e3 e4 e5)
 try simp only [smA,smW] at *
 grind
def F163:E:=(.imp (.and X95 (.and X204 (.and (.cmp .eql X205 (.fn 0 (.fn 1 (.pr X174 X34)))) (.not (.cmp .lss (.int 100) X205))))) (.not (.cmp .lss (.int 1000) (.fn 0 X202))))
theorem G163:Tr F163:=ii4 fun ρ p0 p1 p2 p3=>by
 have:=@t115_len ρ _ _ (.int 0) _ p1
 try simp only [smA,smW] at *
 grind
def F164:E:=(.imp X201 X205)
theorem G164:Tr F164:=ii9 fun ρ p0 p1 p2 p3 p4 p5 p6 p7 p8=>by
 have hnl:E.I ρ (.fn 0 (.fn 10 (.int 0)))=0:=rfl
 have:=fun e1 e2 e3 e4=>@t_ints_len ρ _ _ (.int 0) (@t_xy ρ _ _ _ _ _ _ _ _ _ _ _ _ p7 p4 e1 e2 p1 e3 p0 e4)
 try simp only [smA,smW] at *
 grind
def F165:E:=(.imp X201 X202)
theorem G165:Tr F165:=ii9 fun ρ p0 p1 p2 p3 p4 p5 p6 p7 p8=>by
 have hnl:E.I ρ (.fn 0 (.fn 10 (.int 0)))=0:=rfl
 have:=fun e1 e2 e3 e4=>@t_ints_len ρ _ _ (.int 0) (@t_xy ρ _ _ _ _ _ _ _ _ _ _ _ _ p7 p4 e1 e2 p1 e3 p0 e4)
 try simp only [smA,smW] at *
 grind
def F166:E:=(.imp X201 (.var 81))
theorem G166:Tr F166:=ii9 fun ρ p0 p1 p2 p3 p4 p5 p6 p7 p8=>by
 have hnl:E.I ρ (.fn 0 (.fn 10 (.int 0)))=0:=rfl
 have:=fun e1 e2 e3 e4=>@t_ints_len ρ _ _ (.int 0) (@t_xy ρ _ _ _ _ _ _ _ _ _ _ _ _ p7 p4 e1 e2 p1 e3 p0 e4)
 try simp only [smA,smW] at *
 grind
def F167:E:=(.imp (.and X172 (.and X173 (.and X175 X210))) (.not (.cmp .lss (.int 100) (.fn 109 X174))))
theorem G167:Tr F167:=ii10 fun ρ p0 p1 p2 p3 p4 p5 p6 p7 p8 p9=>by
 have:=fun e1 e2 e3 e4 e5=>@t109_con ρ _ _ (@t_top ρ _ _ _ (.fn 7 (.pr (.fn 0 (.fn 1 (.pr X80 X34))) (.int 1))) _ _ p7 p2 e1 e2 e3 e4 e5)
 try simp only [smA,smW] at *
 grind
def F168:E:=(.imp (.and X172 X211) (.and (.not (.cmp .lss (.fn 107 (.pr X80 X171)) (.int 0))) (.and X95 X94)))
theorem G168:Tr F168:=ii6 fun ρ p0 p1 p2 p3 p4 p5=>by
 have:=@t_at2 ρ _ (.fn 7 (.pr (.fn 0 (.fn 1 (.pr X80 X34))) (.int 1))) X34 _ X171 p5
 try simp only [smA,smW] at *
 grind
def F169:E:=(.imp (.and X95 (.and X214 (.and (.cmp .eql X202 (.fn 0 (.fn 1 (.pr X171 X34)))) (.not (.cmp .lss (.int 100) X202))))) (.not (.cmp .lss (.int 1000) (.fn 0 X212))))
theorem G169:Tr F169:=ii4 fun ρ p0 p1 p2 p3=>by
 have:=@t115_len ρ _ _ (.int 0) _ p1
 try simp only [smA,smW] at *
 grind
def F170:E:=(.imp X201 X212)
theorem G170:Tr F170:=ii9 fun ρ p0 p1 p2 p3 p4 p5 p6 p7 p8=>by
 have hnl:E.I ρ (.fn 0 (.fn 10 (.int 0)))=0:=rfl
 have:=fun e1 e2 e3 e4=>@t_ints_len ρ _ _ (.int 0) (@t_xy ρ _ _ _ _ _ _ _ _ _ _ _ _ p7 p4 e1 e2 p1 e3 p0 e4)
 try simp only [smA,smW] at *
 grind
def F171:E:=(.imp (.and X183 (.and X173 (.and X184 X210))) (.not (.cmp .lss (.int 100) (.fn 109 X171))))
theorem G171:Tr F171:=ii10 fun ρ p0 p1 p2 p3 p4 p5 p6 p7 p8 p9=>by
 have:=fun e1 e2 e3 e4 e5=>@t109_con ρ _ _ (@t_top ρ _ _ _ (.fn 7 (.pr (.fn 0 (.fn 1 (.pr X80 X34))) (.int 1))) _ _ p7 p2 e1 e2 e3 e4 e5)
 try simp only [smA,smW] at *
 grind
def F172:E:=(.imp (.and X183 X211) (.and (.not (.cmp .lss (.fn 107 (.pr X80 X117)) (.int 0))) (.and X95 X94)))
theorem G172:Tr F172:=ii6 fun ρ p0 p1 p2 p3 p4 p5=>by
 have:=@t_at2 ρ _ (.fn 7 (.pr (.fn 0 (.fn 1 (.pr X80 X34))) (.int 1))) X34 _ X117 p5
 try simp only [smA,smW] at *
 grind
def F173:E:=(.imp X201 X117)
theorem G173:Tr F173:=ii9 fun ρ p0 p1 p2 p3 p4 p5 p6 p7 p8=>by
 have hnl:E.I ρ (.fn 0 (.fn 10 (.int 0)))=0:=rfl
 have:=fun e1 e2 e3 e4=>@t_ints_len ρ _ _ (.int 0) (@t_xy ρ _ _ _ _ _ _ _ _ _ _ _ _ p7 p4 e1 e2 p1 e3 p0 e4)
 try simp only [smA,smW] at *
 grind
def F174:E:=(.imp X201 X135)
theorem G174:Tr F174:=ii9 fun ρ p0 p1 p2 p3 p4 p5 p6 p7 p8=>by
 have hnl:E.I ρ (.fn 0 (.fn 10 (.int 0)))=0:=rfl
 have:=fun e1 e2 e3 e4=>@t_ints_len ρ _ _ (.int 0) (@t_xy ρ _ _ _ _ _ _ _ _ _ _ _ _ p7 p4 e1 e2 p1 e3 p0 e4)
 try simp only [smA,smW] at *
 grind
def F175:E:=(.imp X215 X135)
theorem G175:Tr F175:=ii9 fun ρ p0 p1 p2 p3 p4 p5 p6 p7 p8=>by
 have hnl:E.I ρ (.fn 0 (.fn 10 (.int 0)))=0:=rfl
 have:=fun e1 e2 e3 e4=>@t_ints_len ρ _ _ (.int 0) (@t_xy ρ _ _ _ _ _ _ _ _ _ _ _ _ p7 p4 e1 e2 p3 e3 p0 e4)
 try simp only [smA,smW] at *
 grind
def F176:E:=(.imp (.and X216 (.and X173 (.and X217 X181))) (.fn 112 (.pr X87 (.pr X117 X182))))
theorem G176:Tr F176:=ii10 fun ρ p0 p1 p2 p3 p4 p5 p6 p7 p8 p9=>by
 have:=@wrap_add ρ X34 (.int 1)
 have:=fun e1 e2 e3 e4 e5 e6 e7 e8=>@t112_con ρ _ _ _ _ _ (@t112_next ρ _ _ (.int 0) _ _ X170 _ p3 p4 e1 e2 e3 e4 e5) (@t_top ρ _ _ _ (.fn 7 (.pr (.fn 0 (.fn 1 (.pr X80 X34))) (.int 1))) _ _ p8 p2 e1 e2 e6 e7 e8)
 try simp only [smA,smW] at *
 grind
def F177:E:=(.imp (.and X216 (.and X173 (.and X217 X192))) (.fn 111 (.pr X117 X188)))
theorem G177:Tr F177:=ii8 fun ρ p0 p1 p2 p3 p4 p5 p6 p7=>by
 have:=fun e1 e2 e3 e4 e5=>@t111_con ρ _ _ _ _ _ _ _ p5 (@t_top ρ _ _ _ (.fn 7 (.pr (.fn 0 (.fn 1 (.pr X80 X34))) (.int 1))) _ _ p7 p2 e1 e2 e3 e4 e5)
 try simp only [smA,smW] at *
 grind
def F178:E:=(.imp (.and X216 (.and X173 (.and X217 X195))) (.not (.cmp .lss (.fn 6 (.pr X0 (.int 1))) (.fn 109 X117))))
theorem G178:Tr F178:=ii8 fun ρ p0 p1 p2 p3 p4 p5 p6 p7=>by
 have:=fun e1 e2 e3 e4 e5=>@t109_con ρ _ _ (@t_top ρ _ _ _ (.fn 7 (.pr (.fn 0 (.fn 1 (.pr X80 X34))) (.int 1))) _ _ p7 p2 e1 e2 e3 e4 e5)
 try simp only [smA,smW] at *
 grind
def F179:E:=(.imp (.and X93 (.and X94 (.and X95 (.and X96 (.and X97 (.and X216 (.and X173 (.and X217 (.and X219 (.iff (.var 80) (.and (.cmp .eql (.fn 0 X174) (.fn 0 X85)) (.fn 114 (.pr (.fn 28 (.pr (.pr X205 X212) X174)) (.pr X85 (.fn 0 X174))))))))))))))) (.var 80))
theorem G179:Tr F179:=ii10 fun ρ p0 p1 p2 p3 p4 p5 p6 p7 p8 p9=>by
 have hl2:E.I ρ (.fn 0 (.fn 28 (.pr (.pr X205 X212) X174)))=E.I ρ (.fn 0 X174):=rfl
 have:=fun e1 e2 e3 e4 e5=>@t_ints_len ρ _ _ (.fn 0 X174) (@t115_con ρ _ _ _ _ _ (@t115_28 ρ _ _ (.pr X205 X212) _ p8) p0 (@t_top ρ _ _ _ (.fn 7 (.pr (.fn 0 (.fn 1 (.pr X80 X34))) (.int 1))) _ _ p4 p7 e1 e2 e3 e4 e5))
 try simp only [smA,smW] at *
 grind
def F180:E:=(.imp (.and X95 (.and X219 (.and (.cmp .eql X212 (.fn 0 (.fn 1 (.pr X117 X34)))) (.not (.cmp .lss (.int 100) X212))))) (.not (.cmp .lss (.int 1000) (.fn 0 X174))))
theorem G180:Tr F180:=ii4 fun ρ p0 p1 p2 p3=>by
 have:=@t115_len ρ _ _ (.int 0) _ p1
 try simp only [smA,smW] at *
 grind
def F181:E:=(.imp (.and X93 (.and X94 (.and X95 (.and X96 (.and X97 (.and X216 (.and X173 (.and X217 (.fn 115 (.pr (.fn 10 (.int 0)) (.pr X117 X34))))))))))) X174)
theorem G181:Tr F181:=ii9 fun ρ p0 p1 p2 p3 p4 p5 p6 p7 p8=>by
 have:=@t115_len ρ _ _ (.int 0) _ p0
 have hl2:E.I ρ (.fn 0 (.fn 30 (.int 0)))=0:=rfl
 have:=fun e1 e2 e3 e4 e5=>@t_ints_len ρ _ _ (.int 0) (@t115_con ρ _ _ _ _ _ (@t115_30 ρ _ (.int 0) _ _ p8) p0 (@t_top ρ _ _ _ (.fn 7 (.pr (.fn 0 (.fn 1 (.pr X80 X34))) (.int 1))) _ _ p4 p7 e1 e2 e3 e4 e5))
 try simp only [smA,smW] at *
 grind
def F182:E:=(.imp (.and X216 (.and X173 (.and X217 X210))) (.not (.cmp .lss (.int 100) (.fn 109 X117))))
theorem G182:Tr F182:=ii10 fun ρ p0 p1 p2 p3 p4 p5 p6 p7 p8 p9=>by
 have:=fun e1 e2 e3 e4 e5=>@t109_con ρ _ _ (@t_top ρ _ _ _ (.fn 7 (.pr (.fn 0 (.fn 1 (.pr X80 X34))) (.int 1))) _ _ p7 p2 e1 e2 e3 e4 e5)
 try simp only [smA,smW] at *
 grind
def F183:E:=(.imp (.and X216 X211) (.and (.not (.cmp .lss (.fn 107 (.pr X80 X135)) (.int 0))) (.and X95 X94)))
theorem G183:Tr F183:=ii6 fun ρ p0 p1 p2 p3 p4 p5=>by
 have:=@t_at2 ρ _ (.fn 7 (.pr (.fn 0 (.fn 1 (.pr X80 X34))) (.int 1))) X34 _ X135 p5
 try simp only [smA,smW] at *
 grind
def F184:E:=(.imp (.and X116 (.and X196 (.and X197 (.and (.not (.cmp .lss (.var 67) (.int 1))) X222)))) (.cmp .lss X7 (.int 1)))
theorem G184:Tr F184:=ii9 fun ρ p0 p1 p2 p3 p4 p5 p6 p7 p8=>by
 have hnl:E.I ρ (.fn 0 (.fn 10 (.int 0)))=0:=rfl
 have:=fun e1 e2 e3 e4=>@t_ints_len ρ _ _ (.int 0) (@t_xy ρ _ _ _ _ _ _ _ _ _ _ _ _ p5 p4 e1 e2 p1 e3 p0 e4)
 try simp only [smA,smW] at *
 grind
def F185:E:=(.imp (.and X160 (.and X168 (.and X153 (.and X50 X222)))) (.cmp .lss X7 (.int 1)))
theorem G185:Tr F185:=ii9 fun ρ p0 p1 p2 p3 p4 p5 p6 p7 p8=>by
 have hnl:E.I ρ (.fn 0 (.fn 10 (.int 0)))=0:=rfl
 have:=fun e1 e2 e3 e4=>@t_ints_len ρ _ _ (.int 0) (@t_xy ρ _ _ _ _ _ _ _ _ _ _ _ _ p5 p4 e1 e2 p3 e3 p0 e4)
 try simp only [smA,smW] at *
 grind
def F186:E:=(.fn 113 (.pr (.fn 10 (.int 0)) (.pr (.var 48) X223)))
theorem G186:Tr F186:=fun ρ=>by
 unfold F186
 have:=@t113_zero ρ (.var 48) (.int 0) (.int 0) (.fn 1 (.pr X1 (.fn 6 (.pr (.fn 8 (.pr X0 (.int 4))) (.int 1)))))
 try simp only [smA,smW] at *
 grind
def F187:E:=(.fn 113 (.pr (.fn 10 (.int 0)) (.pr (.fn 1 (.pr X33 X34)) X223)))
theorem G187:Tr F187:=fun ρ=>by
 unfold F187
 have:=@t113_zero ρ (.fn 1 (.pr X33 X34)) (.int 0) (.int 0) (.fn 1 (.pr X1 (.fn 6 (.pr (.fn 8 (.pr X0 (.int 4))) (.int 1)))))
 try simp only [smA,smW] at *
 grind
def F188:E:=(.imp (.and (.fn 115 (.pr (.var 48) (.pr X80 X34))) (.and X94 (.and X95 (.and X82 (.and X96 X83))))) (.not (.cmp .lss (.int 100) (.fn 0 (.var 48)))))
theorem G188:Tr F188:=ii7 fun ρ p0 p1 p2 p3 p4 p5 p6=>by
 have:=@t115_len ρ _ _ (.int 0) _ p0
 have:=@zlen_le ρ X80 X34
 try simp only [smA,smW] at *
 grind
def F189:E:=(.imp (.and (.not (.cmp .lss (.int 100) (.fn 109 X33))) X220) X36)
theorem G189:Tr F189:=ii4 fun ρ p0 p1 p2 p3=>by
 have:=@zlen_le ρ X33 X34
 try simp only [smA,smW] at *
 grind
def F190:E:=(.imp (.fn 115 (.pr (.var 41) (.pr X80 X34))) (.fn 115 (.pr (.fn 28 (.pr (.pr (.var 44) (.var 42)) (.var 41))) (.pr X80 X34))))
theorem G190:Tr F190:=ii1 fun ρ p0=>by
 have:=@t115_28 ρ _ _ (.pr (.var 44) (.var 42)) _ p0
 try simp only [smA,smW] at *
 grind
def F191:E:=(.imp (.fn 115 (.pr (.fn 10 (.int 0)) (.pr X80 X34))) (.fn 115 (.pr (.fn 30 (.int 0)) (.pr X80 X34))))
theorem G191:Tr F191:=ii1 fun ρ p0=>by
 have:=@t115_30 ρ _ (.int 0) _ _ p0
 try simp only [smA,smW] at *
 grind
def F192:E:=(.imp (.and X93 (.and X94 (.and X95 (.and X189 (.and X198 (.and X224 (.and (.not (.cmp .eql X34 (.var 34))) (.and (.not (.cmp .eql X34 (.var 37))) X230)))))))) X135)
theorem G192:Tr F192:=ii9 fun ρ p0 p1 p2 p3 p4 p5 p6 p7 p8=>by
 have:=fun e1 e2 e3=>@t_ints_len ρ _ _ (.fn 0 X85) (@t_now ρ _ _ _ _ _ _ _ _ p3 p0 e1 e2 e3)
 try simp only [smA,smW] at *
 grind
def F193:E:=(.imp (.and X93 (.and X94 (.and X95 (.and X96 (.and X97 (.and X183 (.and X173 (.and X184 (.fn 115 (.pr (.fn 10 (.int 0)) (.pr X171 X34))))))))))) X212)
theorem G193:Tr F193:=ii9 fun ρ p0 p1 p2 p3 p4 p5 p6 p7 p8=>by
 have:=@t115_len ρ _ _ (.int 0) _ p0
 have hl3:E.I ρ (.fn 0 (.fn 30 (.int 0)))=0:=rfl
 have:=fun e1 e2 e3 e4 e5=>@t_ints_len ρ _ _ (.int 0) (@t115_con ρ _ _ _ _ _ (@t115_30 ρ _ (.int 0) _ _ p8) p0 (@t_top ρ _ _ _ (.fn 7 (.pr (.fn 0 (.fn 1 (.pr X80 X34))) (.int 1))) _ _ p4 p7 e1 e2 e3 e4 e5))
 try simp only [smA,smW] at *
 grind
def F194:E:=(.imp (.and X93 (.and X94 (.and X95 (.and X96 (.and X97 (.and X183 (.and X173 (.and X184 (.and (.cmp .eql (.fn 0 X212) (.int 0)) X214))))))))) X202)
theorem G194:Tr F194:=ii10 fun ρ p0 p1 p2 p3 p4 p5 p6 p7 p8 p9=>by
 have:=@t115_len ρ _ _ (.int 0) _ p0
 have:=fun e1 e2 e3 e4 e5=>@t_ints_len ρ _ _ (.fn 0 X212) (@t115_con ρ _ _ _ _ _ p9 p0 (@t_top ρ _ _ _ (.fn 7 (.pr (.fn 0 (.fn 1 (.pr X80 X34))) (.int 1))) _ _ p4 p7 e1 e2 e3 e4 e5))
 try simp only [smA,smW] at *
 grind
def F195:E:=(.imp (.and X93 (.and X94 (.and X95 (.and X96 (.and X97 (.and X183 (.and X173 (.and X184 (.and X214 (.iff (.var 81) (.and (.cmp .eql (.fn 0 X212) (.fn 0 X85)) (.fn 114 (.pr (.fn 28 (.pr (.pr (.var 80) X202) X212)) (.pr X85 (.fn 0 X212))))))))))))))) (.var 81))
theorem G195:Tr F195:=ii10 fun ρ p0 p1 p2 p3 p4 p5 p6 p7 p8 p9=>by
 have hl3:E.I ρ (.fn 0 (.fn 28 (.pr (.pr (.var 80) X202) X212)))=E.I ρ (.fn 0 X212):=rfl
 have:=fun e1 e2 e3 e4 e5=>@t_ints_len ρ _ _ (.fn 0 X212) (@t115_con ρ _ _ _ _ _ (@t115_28 ρ _ _ (.pr (.var 80) X202) _ p8) p0 (@t_top ρ _ _ _ (.fn 7 (.pr (.fn 0 (.fn 1 (.pr X80 X34))) (.int 1))) _ _ p4 p7 e1 e2 e3 e4 e5))
 try simp only [smA,smW] at *
 grind
def F196:E:=(.imp (.and X93 (.and X94 (.and X95 (.and X96 (.and X97 (.and X216 (.and X173 (.and X217 (.and (.cmp .eql (.fn 0 X174) (.int 0)) X219))))))))) X212)
theorem G196:Tr F196:=ii10 fun ρ p0 p1 p2 p3 p4 p5 p6 p7 p8 p9=>by
 have:=@t115_len ρ _ _ (.int 0) _ p0
 have:=fun e1 e2 e3 e4 e5=>@t_ints_len ρ _ _ (.fn 0 X174) (@t115_con ρ _ _ _ _ _ p9 p0 (@t_top ρ _ _ _ (.fn 7 (.pr (.fn 0 (.fn 1 (.pr X80 X34))) (.int 1))) _ _ p4 p7 e1 e2 e3 e4 e5))
 try simp only [smA,smW] at *
 grind
def F197:E:=(.imp (.and X93 (.and X94 (.and X95 (.and X189 (.and X198 (.and (.not X224) X230)))))) X135)
theorem G197:Tr F197:=ii7 fun ρ p0 p1 p2 p3 p4 p5 p6=>by
 have:=fun e1 e2 e3=>@t_ints_len ρ _ _ (.fn 0 X85) (@t_now ρ _ _ _ _ _ _ _ _ p3 p0 e1 e2 e3)
 try simp only [smA,smW] at *
 grind
def F198:E:=(.imp X215 X117)
theorem G198:Tr F198:=ii9 fun ρ p0 p1 p2 p3 p4 p5 p6 p7 p8=>by
 have hnl:E.I ρ (.fn 0 (.fn 10 (.int 0)))=0:=rfl
 have:=fun e1 e2 e3 e4=>@t_ints_len ρ _ _ (.int 0) (@t_xy ρ _ _ _ _ _ _ _ _ _ _ _ _ p7 p4 e1 e2 p3 e3 p0 e4)
 try simp only [smA,smW] at *
 grind
def F199:E:=(.imp X215 X202)
theorem G199:Tr F199:=ii9 fun ρ p0 p1 p2 p3 p4 p5 p6 p7 p8=>by
 have hnl:E.I ρ (.fn 0 (.fn 10 (.int 0)))=0:=rfl
 have:=fun e1 e2 e3 e4=>@t_ints_len ρ _ _ (.int 0) (@t_xy ρ _ _ _ _ _ _ _ _ _ _ _ _ p7 p4 e1 e2 p3 e3 p0 e4)
 try simp only [smA,smW] at *
 grind
def F200:E:=(.imp X215 X205)
theorem G200:Tr F200:=ii9 fun ρ p0 p1 p2 p3 p4 p5 p6 p7 p8=>by
 have hnl:E.I ρ (.fn 0 (.fn 10 (.int 0)))=0:=rfl
 have:=fun e1 e2 e3 e4=>@t_ints_len ρ _ _ (.int 0) (@t_xy ρ _ _ _ _ _ _ _ _ _ _ _ _ p7 p4 e1 e2 p3 e3 p0 e4)
 try simp only [smA,smW] at *
 grind
def F201:E:=(.imp X215 (.var 82))
theorem G201:Tr F201:=ii9 fun ρ p0 p1 p2 p3 p4 p5 p6 p7 p8=>by
 have hnl:E.I ρ (.fn 0 (.fn 10 (.int 0)))=0:=rfl
 have:=fun e1 e2 e3 e4=>@t_ints_len ρ _ _ (.int 0) (@t_xy ρ _ _ _ _ _ _ _ _ _ _ _ _ p7 p4 e1 e2 p3 e3 p0 e4)
 try simp only [smA,smW] at *
 grind
def F202:E:=(.imp X215 X212)
theorem G202:Tr F202:=ii9 fun ρ p0 p1 p2 p3 p4 p5 p6 p7 p8=>by
 have hnl:E.I ρ (.fn 0 (.fn 10 (.int 0)))=0:=rfl
 have:=fun e1 e2 e3 e4=>@t_ints_len ρ _ _ (.int 0) (@t_xy ρ _ _ _ _ _ _ _ _ _ _ _ _ p7 p4 e1 e2 p3 e3 p0 e4)
 try simp only [smA,smW] at *
 grind
def F203:E:=(.imp X215 (.var 81))
theorem G203:Tr F203:=ii9 fun ρ p0 p1 p2 p3 p4 p5 p6 p7 p8=>by
 have hnl:E.I ρ (.fn 0 (.fn 10 (.int 0)))=0:=rfl
 have:=fun e1 e2 e3 e4=>@t_ints_len ρ _ _ (.int 0) (@t_xy ρ _ _ _ _ _ _ _ _ _ _ _ _ p7 p4 e1 e2 p3 e3 p0 e4)
 try simp only [smA,smW] at *
 grind
def F204:E:=(.imp (.and X93 (.and X94 (.and X95 (.and X189 (.and X198 (.and X224 (.and (.not (.cmp .eql X34 (.var 34))) (.and (.not (.cmp .eql X34 (.var 37))) X231)))))))) X117)
theorem G204:Tr F204:=ii9 fun ρ p0 p1 p2 p3 p4 p5 p6 p7 p8=>by
 have:=fun e1 e2 e3=>@t_ints_len ρ _ _ (.fn 0 X85) (@t_now ρ _ _ _ _ _ _ _ _ p3 p0 e1 e2 e3)
 try simp only [smA,smW] at *
 grind
def F205:E:=(.imp (.and X93 (.and X94 (.and X95 (.and X96 (.and X97 (.and X172 (.and X173 (.and X175 (.fn 115 (.pr (.fn 10 (.int 0)) (.pr X174 X34))))))))))) X202)
theorem G205:Tr F205:=ii9 fun ρ p0 p1 p2 p3 p4 p5 p6 p7 p8=>by
 have:=@t115_len ρ _ _ (.int 0) _ p0
 have hl3:E.I ρ (.fn 0 (.fn 30 (.int 0)))=0:=rfl
 have:=fun e1 e2 e3 e4 e5=>@t_ints_len ρ _ _ (.int 0) (@t115_con ρ _ _ _ _ _ (@t115_30 ρ _ (.int 0) _ _ p8) p0 (@t_top ρ _ _ _ (.fn 7 (.pr (.fn 0 (.fn 1 (.pr X80 X34))) (.int 1))) _ _ p4 p7 e1 e2 e3 e4 e5))
 try simp only [smA,smW] at *
 grind
def F206:E:=(.imp (.and X93 (.and X94 (.and X95 (.and X96 (.and X97 (.and X172 (.and X173 (.and X175 (.and (.cmp .eql (.fn 0 X202) (.int 0)) X204))))))))) X205)
theorem G206:Tr F206:=ii10 fun ρ p0 p1 p2 p3 p4 p5 p6 p7 p8 p9=>by
 have:=@t115_len ρ _ _ (.int 0) _ p0
 have:=fun e1 e2 e3 e4 e5=>@t_ints_len ρ _ _ (.fn 0 X202) (@t115_con ρ _ _ _ _ _ p9 p0 (@t_top ρ _ _ _ (.fn 7 (.pr (.fn 0 (.fn 1 (.pr X80 X34))) (.int 1))) _ _ p4 p7 e1 e2 e3 e4 e5))
 try simp only [smA,smW] at *
 grind
def F207:E:=(.imp (.and X93 (.and X94 (.and X95 (.and X96 (.and X97 (.and X172 (.and X173 (.and X175 (.and X204 (.iff (.var 82) (.and (.cmp .eql (.fn 0 X202) (.fn 0 X85)) (.fn 114 (.pr (.fn 28 (.pr (.pr (.var 81) X205) X202)) (.pr X85 (.fn 0 X202))))))))))))))) (.var 82))
theorem G207:Tr F207:=ii10 fun ρ p0 p1 p2 p3 p4 p5 p6 p7 p8 p9=>by
 have hl3:E.I ρ (.fn 0 (.fn 28 (.pr (.pr (.var 81) X205) X202)))=E.I ρ (.fn 0 X202):=rfl
 have:=fun e1 e2 e3 e4 e5=>@t_ints_len ρ _ _ (.fn 0 X202) (@t115_con ρ _ _ _ _ _ (@t115_28 ρ _ _ (.pr (.var 81) X205) _ p8) p0 (@t_top ρ _ _ _ (.fn 7 (.pr (.fn 0 (.fn 1 (.pr X80 X34))) (.int 1))) _ _ p4 p7 e1 e2 e3 e4 e5))
 try simp only [smA,smW] at *
 grind
def F208:E:=(.imp (.and X93 (.and X94 (.and X95 (.and X189 (.and X198 (.and (.not X224) X231)))))) X117)
theorem G208:Tr F208:=ii7 fun ρ p0 p1 p2 p3 p4 p5 p6=>by
 have:=fun e1 e2 e3=>@t_ints_len ρ _ _ (.fn 0 X85) (@t_now ρ _ _ _ _ _ _ _ _ p3 p0 e1 e2 e3)
 try simp only [smA,smW] at *
 grind
def F209:E:=(.imp (.and X160 (.and X168 (.and X196 (.and X197 (.and X93 (.and X94 (.and X95 (.and X189 (.and X198 (.iff X135 (.and (.cmp .eql (.var 67) X152) (.fn 114 (.pr (.var 66) (.pr X156 (.var 67))))))))))))))) X135)
theorem G209:Tr F209:=ii10 fun ρ p0 p1 p2 p3 p4 p5 p6 p7 p8 p9=>by
 have:=fun e1 e2 e3 e4=>@t_ints_len ρ _ _ (.var 67) (@t_xy ρ _ _ _ _ _ _ _ _ _ _ _ _ p7 p4 e1 e2 p2 e3 p0 e4)
 try simp only [smA,smW] at *
 grind
namespace l3
def facts:List E:=[F151,F152,F153,F154,F155,F156,F157,F158,F159,F160,F161,F162,F163,F164,F165,F166,F167,F168,F169,F170,F122,F171,F172,F173,F174,F175,F176,F177,F178,F179,F180,F181,F182,F183,F184,F185,F186,F187,F188,F189,F190,F191,F192,F193,F194,F195,F196,F197,F198,F199,F200,F201,F202,F203,F204,F205,F206,F207,F208,F209]
theorem facts_ok:∀ e∈facts,Tr e:=(ac G151 (ac G152 (ac G153 (ac G154 (ac G155 (ac G156 (ac G157 (ac G158 (ac G159 (ac G160 (ac G161 (ac G162 (ac G163 (ac G164 (ac G165 (ac G166 (ac G167 (ac G168 (ac G169 (ac G170 (ac G122 (ac G171 (ac G172 (ac G173 (ac G174 (ac G175 (ac G176 (ac G177 (ac G178 (ac G179 (ac G180 (ac G181 (ac G182 (ac G183 (ac G184 (ac G185 (ac G186 (ac G187 (ac G188 (ac G189 (ac G190 (ac G191 (ac G192 (ac G193 (ac G194 (ac G195 (ac G196 (ac G197 (ac G198 (ac G199 (ac G200 (ac G201 (ac G202 (ac G203 (ac G204 (ac G205 (ac G206 (ac G207 (ac G208 (ac G209 all_nil))))))))))))))))))))))))))))))))))))))))))))))))))))))))))))
end l3
def annsU3:List Ann:=(annX (some yX))::(annY (some yY))::[]
theorem annsU3_ok:∀ x∈annsU3,LoopOk Try.prog x:=by
 intro x hx
 rcases List.mem_cons.1 hx with rfl | hx
 ·exact loop1
 rcases List.mem_cons.1 hx with rfl | hx
 ·exact loop2
 exact plainAnns_ok [] (by kernel_rfl) x hx
theorem body3_0_0:BodyOk Try.prog (annC (some yC)) yC (tC).less (tC).tmps { (tC).st with pc:=(tC).st.pc } :=
 body_of_check good (facts:=l3.facts) l3.facts_ok (anns:=annsU3) annsU3_ok (nats:=natl17) natl17_ok (n:=3000) (by kernel_rfl) (by kernel_rfl)
theorem body3_0:BodyOk Try.prog (annC (some yC)) yC (tC).less (tC).tmps (tC).st:=body3_0_0
end
end Go.Proofs.Ytfifefjbckmfeaa.zoneHolds
