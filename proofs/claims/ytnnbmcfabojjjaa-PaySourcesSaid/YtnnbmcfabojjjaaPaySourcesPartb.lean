/-
  PaySources: contracts of functions, part 2.
-/
import Derived.Test.YtnnbmcfabojjjaaRows
import Derived.Test.YtnnbmcfabojjjaaTheory
import Derived.WalkKit
import Derived.ProofKit
import Derived.OpenShut
import Derived.ChangeOld
import Derived.Below
import Derived.KernelRfl
import Derived.Lib.SmallJoins
import Derived.Test.YtnnbmcfabojjjaaPaySourcesParta
namespace Go.Proofs.Ytnnbmcfabojjjaa.paySources
open Go.ChangeShapes Go.WideShapes Go.ChangeAt Go.RowKit
open Go.SX
set_option linter.unusedVariables false
set_option linter.unusedSimpArgs false
set_option maxRecDepth 100000
noncomputable section
abbrev J0:E:=.var 0
abbrev J1:E:=.var 4
abbrev J2:E:=.cmp .lss J1 (.fn 9 (.pr J0 (.int 2)))
abbrev J3:E:=.cmp .lss (.fn 1 (.pr J0 (.fn 6 (.pr (.fn 8 (.pr J1 (.int 2))) (.int 0))))) (.int 0)
abbrev J4:E:=.not (.cmp .lss J1 (.int 0))
abbrev J5:E:=.fn 101 (.pr J0 (.fn 9 (.pr J0 (.int 2))))
abbrev J6:E:=.not J5
abbrev J7:E:=.iff J4 J6
abbrev J8:E:=.not J3
abbrev J9:E:=.cmp .lss (.fn 1 (.pr J0 (.fn 6 (.pr (.fn 8 (.pr J1 (.int 2))) (.int 1))))) (.int 0)
abbrev J10:E:=.cmp .lss (.int 1) (.fn 1 (.pr J0 (.fn 6 (.pr (.fn 8 (.pr J1 (.int 2))) (.int 1)))))
abbrev J11:E:=.cmp .eql (.fn 1 (.pr J0 (.fn 6 (.pr (.fn 8 (.pr J1 (.int 2))) (.int 0))))) (.int 0)
abbrev J12:E:=.cmp .eql (.fn 1 (.pr J0 (.fn 6 (.pr (.fn 8 (.pr J1 (.int 2))) (.int 1))))) (.int 0)
abbrev J13:E:=.cmp .lss (.int 1000) (.fn 9 (.pr J0 (.int 2)))
abbrev J14:E:=.not J13
abbrev J15:E:=.and J4 J14
abbrev J16:E:=.and J2 J15
abbrev J17:E:=.ar .add .i64 J1 (.int 1)
abbrev J18:E:=.cmp .lss J17 (.int 0)
abbrev J19:E:=.not J18
abbrev J20:E:=.cmp .lss (.int 500) (.fn 1 (.pr J0 (.fn 6 (.pr (.fn 8 (.pr J1 (.int 2))) (.int 0)))))
abbrev J21:E:=.fn 101 (.pr J0 J1)
abbrev J22:E:=.bool false
abbrev J23:E:=.and J21 J15
abbrev J24:E:=.and (.not J20) J23
abbrev J25:E:=.var 1
abbrev J26:E:=.var 2
abbrev J27:E:=.var 3
abbrev J28:E:=.var 5
abbrev J29:E:=.pr J27 (.pr J1 J28)
abbrev J30:E:=.pr J26 J29
abbrev J31:E:=.pr J25 J30
abbrev J32:E:=.pr J0 J31
abbrev J33:E:=.fn 102 J32
abbrev J34:E:=.iff J22 J33
abbrev J35:E:=.not (.cmp .lss J0 (.int 0))
abbrev J36:E:=.not (.cmp .lss (.int 1) J0)
abbrev J37:E:=.not (.cmp .lss J25 (.int 1))
abbrev J38:E:=.not (.cmp .lss J26 (.int 0))
abbrev J39:E:=.not (.cmp .lss J27 (.int (-1)))
abbrev J40:E:=.not (.cmp .lss (.int 1) J27)
abbrev J41:E:=.cmp .lss (.int 4) (.fn 9 (.pr J1 (.int 2)))
abbrev J42:E:=.cmp .lss J27 (.int 0)
abbrev J43:E:=.not J42
abbrev J44:E:=.cmp .lss (.int 0) (.fn 9 (.pr J1 (.int 2)))
abbrev J45:E:=.var 6
abbrev J46:E:=.cmp .lss J45 (.int 0)
abbrev J47:E:=.not J46
abbrev J48:E:=.pr J1 (.fn 9 (.pr J1 (.int 2)))
abbrev J49:E:=.fn 101 J48
abbrev J50:E:=.not J49
abbrev J51:E:=.iff J47 J50
abbrev J52:E:=.cmp .lss (.int 500) J25
abbrev J53:E:=.not J52
abbrev J54:E:=.cmp .lss (.int 399) J26
abbrev J55:E:=.not J54
abbrev J56:E:=.and J53 J55
abbrev J57:E:=.and J51 J56
abbrev J58:E:=.iff J46 J33
abbrev J59:E:=.cmp .lss J1 (.fn 9 (.pr J0 (.int 5)))
abbrev J60:E:=.pr (.fn 1 (.pr J0 (.fn 6 (.pr (.fn 8 (.pr J1 (.int 5))) (.int 4))))) J22
abbrev J61:E:=.pr (.fn 1 (.pr J0 (.fn 6 (.pr (.fn 8 (.pr J1 (.int 5))) (.int 3))))) J60
abbrev J62:E:=.pr (.fn 1 (.pr J0 (.fn 6 (.pr (.fn 8 (.pr J1 (.int 5))) (.int 2))))) J61
abbrev J63:E:=.pr (.fn 1 (.pr J0 (.fn 6 (.pr (.fn 8 (.pr J1 (.int 5))) (.int 1))))) J62
abbrev J64:E:=.pr (.fn 1 (.pr J0 (.fn 6 (.pr (.fn 8 (.pr J1 (.int 5))) (.int 0))))) J63
abbrev J65:E:=.fn 102 J64
abbrev J66:E:=.iff J28 J65
abbrev J67:E:=.pr J0 (.pr J22 (.fn 9 (.pr J0 (.int 5))))
abbrev J68:E:=.fn 103 J67
abbrev J69:E:=.not J68
abbrev J70:E:=.cmp .lss (.int 1000) (.fn 9 (.pr J0 (.int 5)))
abbrev J71:E:=.not J70
abbrev J72:E:=.and J4 J71
abbrev J73:E:=.and J59 J72
abbrev J74:E:=.bool true
abbrev J75:E:=.pr (.fn 1 (.pr J0 (.fn 6 (.pr (.fn 8 (.pr J1 (.int 5))) (.int 4))))) J74
abbrev J76:E:=.pr (.fn 1 (.pr J0 (.fn 6 (.pr (.fn 8 (.pr J1 (.int 5))) (.int 3))))) J75
abbrev J77:E:=.pr (.fn 1 (.pr J0 (.fn 6 (.pr (.fn 8 (.pr J1 (.int 5))) (.int 2))))) J76
abbrev J78:E:=.pr (.fn 1 (.pr J0 (.fn 6 (.pr (.fn 8 (.pr J1 (.int 5))) (.int 1))))) J77
abbrev J79:E:=.pr (.fn 1 (.pr J0 (.fn 6 (.pr (.fn 8 (.pr J1 (.int 5))) (.int 0))))) J78
abbrev J80:E:=.fn 102 J79
abbrev J81:E:=.iff J28 J80
abbrev J82:E:=.pr J0 (.pr J74 (.fn 9 (.pr J0 (.int 5))))
abbrev J83:E:=.fn 103 J82
abbrev J84:E:=.not J83
abbrev J85:E:=.cmp .lss J1 (.fn 0 J0)
abbrev J86:E:=.cmp .eql J25 (.fn 1 (.pr J0 J1))
abbrev J87:E:=.cmp .lss (.int 1000) (.fn 0 J0)
abbrev J88:E:=.not J87
abbrev J89:E:=.and J4 J88
abbrev J90:E:=.and J85 J89
abbrev J91:E:=.cmp .eql (.fn 131 (.pr J0 (.pr J25 J1))) (.int 0)
abbrev J92:E:=.cmp .lss (.int 99) J27
abbrev J93:E:=.var 7
abbrev J94:E:=.var 8
abbrev J95:E:=.pr J93 J94
abbrev J96:E:=.pr J45 J95
abbrev J97:E:=.pr J28 J96
abbrev J98:E:=.pr J1 J97
abbrev J99:E:=.pr J27 J98
abbrev J100:E:=.pr J26 J99
abbrev J101:E:=.pr J25 J100
abbrev J102:E:=.pr J0 J101
abbrev J103:E:=.fn 137 J102
abbrev J104:E:=.iff J22 J103
abbrev J105:E:=.cmp .lss (.int 99) J1
abbrev J106:E:=.not (.cmp .lss J28 (.int 0))
abbrev J107:E:=.cmp .lss (.int 99) J28
abbrev J108:E:=.cmp .lss (.int 99) J45
abbrev J109:E:=.not (.cmp .lss J93 (.int 0))
abbrev J110:E:=.cmp .lss (.int 99) J93
abbrev J111:E:=.cmp .lss J94 (.int 0)
abbrev J112:E:=.not J111
abbrev J113:E:=.cmp .lss (.int 99) J94
abbrev J114:E:=.cmp .eql J25 (.int (-1))
abbrev J115:E:=.cmp .eql J27 (.int 0)
abbrev J116:E:=.cmp .eql J1 (.int 0)
abbrev J117:E:=.not (.cmp .lss J0 (.int 1))
abbrev J118:E:=.cmp .lss J25 (.int (-1))
abbrev J119:E:=.not J118
abbrev J120:E:=.cmp .lss J25 (.int 400)
abbrev J121:E:=.cmp .eql J26 (.int 0)
abbrev J122:E:=.not J92
abbrev J123:E:=.not J107
abbrev J124:E:=.not J108
abbrev J125:E:=.not J110
abbrev J126:E:=.not J113
abbrev J127:E:=.cmp .lss (.int 500) J0
abbrev J128:E:=.not J127
abbrev J129:E:=.and J126 J128
abbrev J130:E:=.and J125 J129
abbrev J131:E:=.and J124 J130
abbrev J132:E:=.and J123 J131
abbrev J133:E:=.and J122 J132
abbrev J134:E:=.iff (.cmp .eql J26 (.int 1)) J103
abbrev J135:E:=.iff J74 J103
abbrev J136:E:=.and (.not J105) J132
abbrev J137:E:=.and J122 J136
abbrev J138:E:=.pr (.int 0) (.int 0)
abbrev J139:E:=.fn 117 J0
abbrev J140:E:=.cmp .eql J94 (.int 0)
abbrev J141:E:=.ar .add .i64 J94 (.int 1)
abbrev J142:E:=.cmp .eql J94 (.int 1)
abbrev J143:E:=.var 16
abbrev J144:E:=.cmp .eql J143 (.int 0)
abbrev J145:E:=.pr J0 (.pr J94 J143)
abbrev J146:E:=.cmp .eql J143 (.int 1)
abbrev J147:E:=.cmp .eql J143 (.int 2)
abbrev J148:E:=.cmp .lss J143 (.int 4)
abbrev J149:E:=.cmp .lss J143 (.int 0)
abbrev J150:E:=.not J149
abbrev J151:E:=.and J150 J140
abbrev J152:E:=.and J148 J151
abbrev J153:E:=.and J148 J150
abbrev J154:E:=.var 24
abbrev J155:E:=.var 28
abbrev J156:E:=.cmp .lss J154 (.fn 0 J155)
abbrev J157:E:=.var 25
abbrev J158:E:=.fn 104 (.pr J157 (.pr J0 (.pr J94 (.pr J143 J154))))
abbrev J159:E:=.fn 109 (.pr J155 J145)
abbrev J160:E:=.cmp .lss J154 (.int 0)
abbrev J161:E:=.not J160
abbrev J162:E:=.and J161 J152
abbrev J163:E:=.iff J22 (.fn 108 J0)
abbrev J164:E:=.cmp .lss (.int 40) (.fn 0 J155)
abbrev J165:E:=.not J164
abbrev J166:E:=.and J165 J161
abbrev J167:E:=.and J156 J166
abbrev J168:E:=.ar .add .i64 J154 (.int 1)
abbrev J169:E:=.ar .add .i64 J143 (.int 1)
abbrev J170:E:=.and J161 J153
abbrev J171:E:=.and (.fn 104 (.pr (.var 17) (.pr J0 (.pr J94 (.pr J143 (.int 0)))))) (.not (.cmp .lss (.int 4) J143))
abbrev J172:E:=.pr (.var 17) (.pr J0 (.pr J141 J138))
abbrev J173:E:=.fn 104 J172
abbrev J174:E:=.and J156 J161
abbrev J175:E:=.cmp .lss (.fn 7 (.pr (.int 2) J141)) (.fn 7 (.pr (.int 2) J94))
abbrev J176:E:=.var 32
abbrev J177:E:=.cmp .lss J176 (.fn 9 (.pr (.fn 1 (.pr J0 (.int 29))) (.int 5)))
abbrev J178:E:=.cmp .lss (.fn 1 (.pr (.fn 1 (.pr J0 (.int 29))) (.fn 6 (.pr (.fn 8 (.pr J176 (.int 5))) (.int 3))))) (.int 0)
abbrev J179:E:=.var 33
abbrev J180:E:=.var 34
abbrev J181:E:=.pr J0 J176
abbrev J182:E:=.pr J180 J181
abbrev J183:E:=.fn 106 J182
abbrev J184:E:=.pr J179 J181
abbrev J185:E:=.fn 105 J184
abbrev J186:E:=.cmp .lss J176 (.int 0)
abbrev J187:E:=.not J186
abbrev J188:E:=.and J185 J187
abbrev J189:E:=.and J183 J188
abbrev J190:E:=.and J139 (.and J177 J187)
abbrev J191:E:=.ar .add .i64 J176 (.int 1)
abbrev J192:E:=.not (.fn 33 (.pr J157 (.fn 1 (.pr J155 J154))))
abbrev J193:E:=.pr (.fn 34 (.pr J157 (.pr (.fn 1 (.pr J155 J154)) J94))) (.pr J0 (.pr J94 (.pr J143 J168)))
abbrev J194:E:=.fn 104 J193
abbrev J195:E:=.cmp .lss (.fn 7 (.pr (.int 2) J141)) (.int 0)
abbrev J196:E:=.not J195
abbrev J197:E:=.cmp .lss (.fn 9 (.pr (.fn 1 (.pr J0 (.int 29))) (.int 5))) J176
abbrev J198:E:=.not J197
abbrev J199:E:=.pr J0 (.fn 9 (.pr (.fn 1 (.pr J0 (.int 29))) (.int 5)))
abbrev J200:E:=.not (.fn 33 (.pr J179 (.fn 1 (.pr (.fn 1 (.pr J0 (.int 29))) (.fn 6 (.pr (.fn 8 (.pr J176 (.int 5))) (.int 1)))))))
abbrev J201:E:=.and J139 J189
abbrev J202:E:=.and J200 J201
abbrev J203:E:=.and J178 J202
abbrev J204:E:=.and J177 J203
abbrev J205:E:=.and (.not J178) J201
abbrev J206:E:=.and J177 J205
abbrev J207:E:=.var 40
abbrev J208:E:=.cmp .lss J207 (.fn 9 (.pr (.fn 1 (.pr J0 (.int 0))) (.int 12)))
abbrev J209:E:=.cmp .lss (.int 0) J207
abbrev J210:E:=.and J208 J209
abbrev J211:E:=.ar .sub .i64 J207 (.int 1)
abbrev J212:E:=.fn 107 (.pr J0 J207)
abbrev J213:E:=.var 41
abbrev J214:E:=.fn 105 (.pr J213 J199)
abbrev J215:E:=.not J209
abbrev J216:E:=.cmp .lss J207 (.int 0)
abbrev J217:E:=.not J216
abbrev J218:E:=.and J215 J217
abbrev J219:E:=.ar .add .i64 J207 (.int 1)
abbrev J220:E:=.var 43
abbrev J221:E:=.iff J220 (.fn 137 (.pr (.fn 1 (.pr (.fn 1 (.pr J0 (.int 0))) (.fn 6 (.pr (.fn 8 (.pr J207 (.int 12))) (.int 0))))) (.pr (.fn 1 (.pr (.fn 1 (.pr J0 (.int 0))) (.fn 6 (.pr (.fn 8 (.pr J207 (.int 12))) (.int 1))))) (.pr (.fn 1 (.pr (.fn 1 (.pr J0 (.int 0))) (.fn 6 (.pr (.fn 8 (.pr J207 (.int 12))) (.int 2))))) (.pr (.fn 1 (.pr (.fn 1 (.pr J0 (.int 0))) (.fn 6 (.pr (.fn 8 (.pr J207 (.int 12))) (.int 3))))) (.pr (.fn 1 (.pr (.fn 1 (.pr J0 (.int 0))) (.fn 6 (.pr (.fn 8 (.pr J207 (.int 12))) (.int 4))))) (.pr (.fn 1 (.pr (.fn 1 (.pr J0 (.int 0))) (.fn 6 (.pr (.fn 8 (.pr J207 (.int 12))) (.int 5))))) (.pr (.fn 1 (.pr (.fn 1 (.pr J0 (.int 0))) (.fn 6 (.pr (.fn 8 (.pr J207 (.int 12))) (.int 6))))) (.pr (.fn 1 (.pr (.fn 1 (.pr J0 (.int 0))) (.fn 6 (.pr (.fn 8 (.pr J207 (.int 12))) (.int 7))))) (.fn 1 (.pr (.fn 1 (.pr J0 (.int 0))) (.fn 6 (.pr (.fn 8 (.pr J207 (.int 12))) (.int 8))))))))))))))
abbrev J222:E:=.var 42
abbrev J223:E:=.cmp .eql (.fn 32 (.pr J222 (.pr (.fn 1 (.pr (.fn 1 (.pr J0 (.int 0))) (.fn 6 (.pr (.fn 8 (.pr J207 (.int 12))) (.int 0))))) (.int 0)))) (.fn 1 (.pr (.fn 1 (.pr J0 (.int 0))) (.fn 6 (.pr (.fn 8 (.pr J207 (.int 12))) (.int 1)))))
abbrev J224:E:=.and J212 (.and (.fn 106 (.pr J222 J199)) (.and J214 J217))
abbrev J225:E:=.cmp .eql (.fn 32 (.pr J213 (.pr (.fn 1 (.pr (.fn 1 (.pr J0 (.int 0))) (.fn 6 (.pr (.fn 8 (.pr J207 (.int 12))) (.int 0))))) (.int 0)))) (.fn 1 (.pr (.fn 1 (.pr J0 (.int 0))) (.fn 6 (.pr (.fn 8 (.pr J207 (.int 12))) (.int 2)))))
abbrev J226:E:=.not (.fn 33 (.pr J213 (.fn 1 (.pr (.fn 1 (.pr J0 (.int 0))) (.fn 6 (.pr (.fn 8 (.pr J207 (.int 12))) (.int 0)))))))
abbrev J227:E:=.cmp .lss (.fn 1 (.pr (.fn 1 (.pr J0 (.int 0))) (.fn 6 (.pr (.fn 8 (.pr J211 (.int 12))) (.int 0))))) (.fn 1 (.pr (.fn 1 (.pr J0 (.int 0))) (.fn 6 (.pr (.fn 8 (.pr J207 (.int 12))) (.int 0)))))
abbrev J228:E:=.and J212 (.and (.fn 106 (.pr J222 J199)) (.and J214 (.and J217 J139)))
abbrev J229:E:=.and J208 J218
abbrev J230:E:=.cmp .lss (.fn 9 (.pr (.fn 1 (.pr J0 (.int 0))) (.int 12))) J219
abbrev J231:E:=.not J230
abbrev J232:E:=.not (.fn 33 (.pr J222 (.fn 1 (.pr (.fn 1 (.pr J0 (.int 0))) (.fn 6 (.pr (.fn 8 (.pr J207 (.int 12))) (.int 0)))))))
abbrev J233:E:=.fn 107 (.pr J0 J219)
abbrev J234:E:=.cmp .lss (.fn 7 (.pr (.fn 9 (.pr (.fn 1 (.pr J0 (.int 0))) (.int 12))) J219)) (.fn 7 (.pr (.fn 9 (.pr (.fn 1 (.pr J0 (.int 0))) (.int 12))) J207))
abbrev J235:E:=.cmp .lss (.fn 7 (.pr (.fn 9 (.pr (.fn 1 (.pr J0 (.int 0))) (.int 12))) J219)) (.int 0)
abbrev J236:E:=.not J235
theorem reckoned0:withTab Try.prog (fun tb=>checkAll outTrue (run Try.prog (tb.plus [] [] natl12) 3000 (.call 9 []) .nil (varSt 0 []) SX.one))=true:=by kernel_rfl
def natl13:List Nat1:=closedNat 9::natl12
theorem natl13_ok:∀ x∈natl13,NatOk Try.prog x:=by
 intro x hx
 rcases List.mem_cons.1 hx with rfl | hx
 ·exact closed_of_check good (facts:=[]) all_nil (anns:=[]) (plainAnns_ok [] rfl) (nats:=natl12) natl12_ok reckoned0
 ·exact natl12_ok x hx

def F0:E:=(.fn 101 (.pr J0 (.int 0)))
theorem G0:Tr F0:=fun ρ=>by
 unfold F0
 exact t101_zero (by (try simp only [sm_I_int]); omega)
def F1:E:=(.imp (.and J2 (.and J3 J4)) J7)
theorem G1:Tr F1:=ii3 fun ρ p0 p1 p2=>by
 have:=fun h0 h1=>@t101_fail ρ J1 J0 (.fn 9 (.pr J0 (.int 2))) h0 h1 (.fn 1 (.pr J0 (.fn 6 (.pr (.fn 8 (.pr J1 (.int 2))) (.int 0))))) (.fn 1 (.pr J0 (.fn 6 (.pr (.fn 8 (.pr J1 (.int 2))) (.int 1))))) rfl rfl
 try simp only [smA,smW] at *
 grind
def F2:E:=(.imp (.and J2 (.and J8 (.and J9 J4))) J7)
theorem G2:Tr F2:=ii4 fun ρ p0 p1 p2 p3=>by
 have:=fun h0 h1=>@t101_fail ρ J1 J0 (.fn 9 (.pr J0 (.int 2))) h0 h1 (.fn 1 (.pr J0 (.fn 6 (.pr (.fn 8 (.pr J1 (.int 2))) (.int 0))))) (.fn 1 (.pr J0 (.fn 6 (.pr (.fn 8 (.pr J1 (.int 2))) (.int 1))))) rfl rfl
 try simp only [smA,smW] at *
 grind
def F3:E:=(.imp (.and J2 (.and J8 (.and (.not J9) (.and (.not J10) (.and (.not J11) (.and (.not J12) J4)))))) J7)
theorem G3:Tr F3:=ii7 fun ρ p0 p1 p2 p3 p4 p5 p6=>by
 have:=fun h0 h1=>@t101_fail ρ J1 J0 (.fn 9 (.pr J0 (.int 2))) h0 h1 (.fn 1 (.pr J0 (.fn 6 (.pr (.fn 8 (.pr J1 (.int 2))) (.int 0))))) (.fn 1 (.pr J0 (.fn 6 (.pr (.fn 8 (.pr J1 (.int 2))) (.int 1))))) rfl rfl
 try simp only [smA,smW] at *
 grind
def F4:E:=(.imp J16 J19)
theorem G4:Tr F4:=ii3 fun ρ p0 p1 p2=>by
 have:=nn9 ρ (.pr J0 (.int 2))
 try simp only [smA,smW] at *
 obtain ⟨a2,ea2,qa2⟩:=cs_i64 ((E.I ρ J1) + (1))
 try simp only [ea2] at *
 omega
def F5:E:=(.imp (.and J2 (.and J8 (.and (.not J9) (.and J10 J4)))) J7)
theorem G5:Tr F5:=ii5 fun ρ p0 p1 p2 p3 p4=>by
 have:=fun h0 h1=>@t101_fail ρ J1 J0 (.fn 9 (.pr J0 (.int 2))) h0 h1 (.fn 1 (.pr J0 (.fn 6 (.pr (.fn 8 (.pr J1 (.int 2))) (.int 0))))) (.fn 1 (.pr J0 (.fn 6 (.pr (.fn 8 (.pr J1 (.int 2))) (.int 1))))) rfl rfl
 try simp only [smA,smW] at *
 grind
def F6:E:=(.imp (.and J2 (.and J8 (.and J20 J4))) J7)
theorem G6:Tr F6:=ii4 fun ρ p0 p1 p2 p3=>by
 have:=fun h0 h1=>@t101_fail ρ J1 J0 (.fn 9 (.pr J0 (.int 2))) h0 h1 (.fn 1 (.pr J0 (.fn 6 (.pr (.fn 8 (.pr J1 (.int 2))) (.int 0))))) (.fn 1 (.pr J0 (.fn 6 (.pr (.fn 8 (.pr J1 (.int 2))) (.int 1))))) rfl rfl
 try simp only [smA,smW] at *
 grind
def F7:E:=(.imp (.and (.not J2) J21) (.iff J22 J6))
theorem G7:Tr F7:=ii2 fun ρ p0 p1=>by
 have:=fun h1=>@t101_end ρ J1 J0 (.fn 9 (.pr J0 (.int 2))) p1 h1
 try simp only [smA,smW] at *
 grind
def F8:E:=(.imp (.and J2 J4) (.not (.cmp .lss (.fn 9 (.pr J0 (.int 2))) J17)))
theorem G8:Tr F8:=ii2 fun ρ p0 p1=>by
 try simp only [smA,smW] at *
 obtain ⟨a2,ea2,qa2⟩:=cs_i64 ((E.I ρ J1) + (1))
 try simp only [ea2] at *
 omega
def F9:E:=(.imp (.and J2 (.and J8 (.and (.not J9) (.and (.not J10) (.and (.not J11) (.and J12 J24)))))) (.fn 101 (.pr J0 J17)))
theorem G9:Tr F9:=ii10 fun ρ p0 p1 p2 p3 p4 p5 p6 p7 p8 p9=>by
 have:=@wrap_add ρ J1 (.int 1)
 have:=fun h0 hm=>@t101_step ρ J1 J17 J0 p7 h0 hm (.fn 1 (.pr J0 (.fn 6 (.pr (.fn 8 (.pr J1 (.int 2))) (.int 0))))) (.fn 1 (.pr J0 (.fn 6 (.pr (.fn 8 (.pr J1 (.int 2))) (.int 1))))) rfl rfl
 try simp only [smA,smW] at *
 grind
def F10:E:=(.imp (.and J2 (.and J8 (.and (.not J9) (.and (.not J10) (.and J11 J24))))) (.fn 101 (.pr J0 J17)))
theorem G10:Tr F10:=ii9 fun ρ p0 p1 p2 p3 p4 p5 p6 p7 p8=>by
 have:=@wrap_add ρ J1 (.int 1)
 have:=fun h0 hm=>@t101_step ρ J1 J17 J0 p6 h0 hm (.fn 1 (.pr J0 (.fn 6 (.pr (.fn 8 (.pr J1 (.int 2))) (.int 0))))) (.fn 1 (.pr J0 (.fn 6 (.pr (.fn 8 (.pr J1 (.int 2))) (.int 1))))) rfl rfl
 try simp only [smA,smW] at *
 grind
def F11:E:=(.imp J16 (.cmp .lss (.fn 7 (.pr (.fn 9 (.pr J0 (.int 2))) J17)) (.fn 7 (.pr (.fn 9 (.pr J0 (.int 2))) J1))))
theorem G11:Tr F11:=ii3 fun ρ p0 p1 p2=>by
 have:=nn9 ρ (.pr J0 (.int 2))
 try simp only [smA,smW] at *
 obtain ⟨a2,ea2,qa2⟩:=cs_i64 ((E.I ρ J1) + (1))
 try simp only [ea2] at *
 omega
def F12:E:=(.imp (.and J2 J4) (.not (.cmp .lss (.fn 7 (.pr (.fn 9 (.pr J0 (.int 2))) J17)) (.int 0))))
theorem G12:Tr F12:=ii2 fun ρ p0 p1=>by
 try simp only [smA,smW] at *
 obtain ⟨a2,ea2,qa2⟩:=cs_i64 ((E.I ρ J1) + (1))
 try simp only [ea2] at *
 omega
namespace p12
def facts:List E:=[F0,F1,F2,F3,F4,F5,F6,F7,F8,F9,F10,F11,F12]
theorem facts_ok:∀ e∈facts,Tr e:=(ac G0 (ac G1 (ac G2 (ac G3 (ac G4 (ac G5 (ac G6 (ac G7 (ac G8 (ac G9 (ac G10 (ac G11 (ac G12 all_nil)))))))))))))
end p12
theorem spec12_0:NatOk Try.prog (specNat (spTF)) :=
 spec_of_check good (facts:=p12.facts) p12.facts_ok (anns:=annTF) (plainAnns_ok _ (by kernel_rfl)) (nats:=natl13) natl13_ok (n:=3000) (by kernel_rfl)
def natl14:List Nat1:=specNat (spTF)::natl13
theorem natl14_ok:∀ x∈natl14,NatOk Try.prog x:=by
 intro x hx
 rcases List.mem_cons.1 hx with rfl | hx
 ·exact spec12_0
 exact natl13_ok x hx

def F13:E:=(.imp (.cmp .lss J0 (.int 0)) J34)
theorem G13:Tr F13:=ii1 fun ρ p0=>by
 have:=(@z102 ρ J27 J25 J0 J28 J26 J1)
 try simp only [smA,smW] at *
 grind
def F14:E:=(.imp (.and J35 (.and J36 (.cmp .lss J25 (.int 1)))) J34)
theorem G14:Tr F14:=ii3 fun ρ p0 p1 p2=>by
 have:=(@z102 ρ J27 J25 J0 J28 J26 J1)
 try simp only [smA,smW] at *
 grind
def F15:E:=(.imp (.and J35 (.and J36 (.and J37 (.cmp .lss J26 (.int 0))))) J34)
theorem G15:Tr F15:=ii4 fun ρ p0 p1 p2 p3=>by
 have:=(@z102 ρ J27 J25 J0 J28 J26 J1)
 try simp only [smA,smW] at *
 grind
def F16:E:=(.imp (.and J35 (.and J36 (.and J37 (.and J38 (.cmp .lss J27 (.int (-1))))))) J34)
theorem G16:Tr F16:=ii5 fun ρ p0 p1 p2 p3 p4=>by
 have:=(@z102 ρ J27 J25 J0 J28 J26 J1)
 try simp only [smA,smW] at *
 grind
def F17:E:=(.imp (.and J35 (.and J36 (.and J37 (.and J38 (.and J39 (.and J40 (.and (.not J41) (.and J43 (.and (.not J44) (.and J28 J57)))))))))) J58)
theorem G17:Tr F17:=ii13 fun ρ p0 p1 p2 p3 p4 p5 p6 p7 p8 p9 p10 p11 p12=>by
 have:=nn9 ρ (.pr J1 (.int 2))
 have:=(@z102 ρ J27 J25 J0 J28 J26 J1)
 try simp only [smA,smW] at *
 grind
def F18:E:=(.imp (.and J35 (.and J36 (.and J37 (.and J38 (.and J39 (.and J40 (.and (.not J41) (.and J43 (.and (.not J44) J57))))))))) J58)
theorem G18:Tr F18:=ii12 fun ρ p0 p1 p2 p3 p4 p5 p6 p7 p8 p9 p10 p11=>by
 have:=nn9 ρ (.pr J1 (.int 2))
 have:=(@z102 ρ J27 J25 J0 J28 J26 J1)
 try simp only [smA,smW] at *
 grind
def F19:E:=(.imp (.and J35 (.and J36 (.and J37 (.and J38 (.and J39 (.and J40 (.and (.not J41) (.and J43 (.and J44 J56))))))))) J34)
theorem G19:Tr F19:=ii11 fun ρ p0 p1 p2 p3 p4 p5 p6 p7 p8 p9 p10=>by
 have:=(@z102 ρ J27 J25 J0 J28 J26 J1)
 try simp only [smA,smW] at *
 grind
def F20:E:=(.imp (.and J35 (.and J36 (.and J37 (.and J38 (.and J39 (.and J40 (.and (.not J41) (.and J42 J28)))))))) J34)
theorem G20:Tr F20:=ii9 fun ρ p0 p1 p2 p3 p4 p5 p6 p7 p8=>by
 have:=(@z102 ρ J27 J25 J0 J28 J26 J1)
 try simp only [smA,smW] at *
 grind
def F21:E:=(.imp (.and J35 (.and J36 (.and J37 (.and J38 (.and J39 (.and J40 (.and (.not J41) (.and J42 (.and (.not J28) J57))))))))) J58)
theorem G21:Tr F21:=ii12 fun ρ p0 p1 p2 p3 p4 p5 p6 p7 p8 p9 p10 p11=>by
 have:=(@z102 ρ J27 J25 J0 J28 J26 J1)
 try simp only [smA,smW] at *
 grind
def F22:E:=(.imp (.and J35 (.and J36 (.and J37 (.and J38 (.and J39 (.and J40 J41)))))) J34)
theorem G22:Tr F22:=ii7 fun ρ p0 p1 p2 p3 p4 p5 p6=>by
 have:=(@z102 ρ J27 J25 J0 J28 J26 J1)
 try simp only [smA,smW] at *
 grind
def F23:E:=(.imp (.and J35 (.and J36 (.and J37 (.and J38 (.and J39 (.cmp .lss (.int 1) J27)))))) J34)
theorem G23:Tr F23:=ii6 fun ρ p0 p1 p2 p3 p4 p5=>by
 have:=(@z102 ρ J27 J25 J0 J28 J26 J1)
 try simp only [smA,smW] at *
 grind
def F24:E:=(.imp (.and J35 (.and J36 (.and J37 (.and J38 J54)))) J34)
theorem G24:Tr F24:=ii5 fun ρ p0 p1 p2 p3 p4=>by
 have:=(@z102 ρ J27 J25 J0 J28 J26 J1)
 try simp only [smA,smW] at *
 grind
def F25:E:=(.imp (.and J35 (.and J36 (.and J37 J52))) J34)
theorem G25:Tr F25:=ii4 fun ρ p0 p1 p2 p3=>by
 have:=(@z102 ρ J27 J25 J0 J28 J26 J1)
 try simp only [smA,smW] at *
 grind
def F26:E:=(.imp (.and J35 (.cmp .lss (.int 1) J0)) J34)
theorem G26:Tr F26:=ii2 fun ρ p0 p1=>by
 have:=(@z102 ρ J27 J25 J0 J28 J26 J1)
 try simp only [smA,smW] at *
 grind
namespace p13
def facts:List E:=[F13,F14,F15,F16,F17,F18,F19,F20,F21,F22,F23,F24,F25,F26]
theorem facts_ok:∀ e∈facts,Tr e:=(ac G13 (ac G14 (ac G15 (ac G16 (ac G17 (ac G18 (ac G19 (ac G20 (ac G21 (ac G22 (ac G23 (ac G24 (ac G25 (ac G26 all_nil))))))))))))))
end p13
theorem spec13_0:NatOk Try.prog (specNat (spFine)) :=
 spec_of_check good (facts:=p13.facts) p13.facts_ok (anns:=[]) (plainAnns_ok _ (by kernel_rfl)) (nats:=natl14) natl14_ok (n:=3000) (by kernel_rfl)
def natl15:List Nat1:=specNat (spFine)::natl14
theorem natl15_ok:∀ x∈natl15,NatOk Try.prog x:=by
 intro x hx
 rcases List.mem_cons.1 hx with rfl | hx
 ·exact spec13_0
 exact natl14_ok x hx

def F27:E:=(.fn 103 (.pr J0 (.pr J22 (.int 0))))
theorem G27:Tr F27:=fun ρ=>by
 unfold F27
 exact t103_zero (by (try simp only [sm_I_int]); omega)
def F28:E:=(.imp (.and J59 (.and J66 (.and (.not J28) J4))) (.iff J4 J69))
theorem G28:Tr F28:=ii4 fun ρ p0 p1 p2 p3=>by
 have:=fun h0 h1=>@t103_fail ρ J1 J22 (.fn 9 (.pr J0 (.int 5))) J0 h0 h1 J65 rfl
 try simp only [smA,smW] at *
 grind
def F29:E:=(.imp J73 J19)
theorem G29:Tr F29:=ii3 fun ρ p0 p1 p2=>by
 have:=nn9 ρ (.pr J0 (.int 5))
 try simp only [smA,smW] at *
 obtain ⟨a2,ea2,qa2⟩:=cs_i64 ((E.I ρ J1) + (1))
 try simp only [ea2] at *
 omega
def F30:E:=(.imp (.and (.not J59) (.fn 103 (.pr J0 (.pr J22 J1)))) (.iff J22 J69))
theorem G30:Tr F30:=ii2 fun ρ p0 p1=>by
 have:=fun h1=>@t103_end ρ J1 J22 (.fn 9 (.pr J0 (.int 5))) J0 p1 h1
 try simp only [smA,smW] at *
 grind
def F31:E:=(.imp (.and J59 J4) (.not (.cmp .lss (.fn 9 (.pr J0 (.int 5))) J17)))
theorem G31:Tr F31:=ii2 fun ρ p0 p1=>by
 try simp only [smA,smW] at *
 obtain ⟨a2,ea2,qa2⟩:=cs_i64 ((E.I ρ J1) + (1))
 try simp only [ea2] at *
 omega
def F32:E:=(.imp (.and J59 (.and J66 (.and J28 (.and (.fn 103 (.pr J0 (.pr J22 J1))) J72)))) (.fn 103 (.pr J0 (.pr J22 J17))))
theorem G32:Tr F32:=ii6 fun ρ p0 p1 p2 p3 p4 p5=>by
 have:=@wrap_add ρ J1 (.int 1)
 have:=fun h0 hm=>@t103_step ρ J1 J22 J17 J0 p3 h0 hm J65 rfl
 try simp only [smA,smW] at *
 grind
def F33:E:=(.imp J73 (.cmp .lss (.fn 7 (.pr (.fn 9 (.pr J0 (.int 5))) J17)) (.fn 7 (.pr (.fn 9 (.pr J0 (.int 5))) J1))))
theorem G33:Tr F33:=ii3 fun ρ p0 p1 p2=>by
 have:=nn9 ρ (.pr J0 (.int 5))
 try simp only [smA,smW] at *
 obtain ⟨a2,ea2,qa2⟩:=cs_i64 ((E.I ρ J1) + (1))
 try simp only [ea2] at *
 omega
def F34:E:=(.imp (.and J59 J4) (.not (.cmp .lss (.fn 7 (.pr (.fn 9 (.pr J0 (.int 5))) J17)) (.int 0))))
theorem G34:Tr F34:=ii2 fun ρ p0 p1=>by
 try simp only [smA,smW] at *
 obtain ⟨a2,ea2,qa2⟩:=cs_i64 ((E.I ρ J1) + (1))
 try simp only [ea2] at *
 omega
namespace p14
def facts:List E:=[F27,F28,F29,F30,F31,F32,F33,F34]
theorem facts_ok:∀ e∈facts,Tr e:=(ac G27 (ac G28 (ac G29 (ac G30 (ac G31 (ac G32 (ac G33 (ac G34 all_nil))))))))
end p14
theorem spec14_0:NatOk Try.prog (specNat (spIF 77 false)) :=
 spec_of_check good (facts:=p14.facts) p14.facts_ok (anns:=annIF 77 false) (plainAnns_ok _ (by kernel_rfl)) (nats:=natl15) natl15_ok (n:=3000) (by kernel_rfl)
def natl16:List Nat1:=specNat (spIF 77 false)::natl15
theorem natl16_ok:∀ x∈natl16,NatOk Try.prog x:=by
 intro x hx
 rcases List.mem_cons.1 hx with rfl | hx
 ·exact spec14_0
 exact natl15_ok x hx

def F35:E:=(.fn 103 (.pr J0 (.pr J74 (.int 0))))
theorem G35:Tr F35:=fun ρ=>by
 unfold F35
 exact t103_zero (by (try simp only [sm_I_int]); omega)
def F36:E:=(.imp (.and J59 (.and J81 (.and (.not J28) J4))) (.iff J4 J84))
theorem G36:Tr F36:=ii4 fun ρ p0 p1 p2 p3=>by
 have:=fun h0 h1=>@t103_fail ρ J1 J74 (.fn 9 (.pr J0 (.int 5))) J0 h0 h1 J80 rfl
 try simp only [smA,smW] at *
 grind
def F37:E:=(.imp (.and (.not J59) (.fn 103 (.pr J0 (.pr J74 J1)))) (.iff J22 J84))
theorem G37:Tr F37:=ii2 fun ρ p0 p1=>by
 have:=fun h1=>@t103_end ρ J1 J74 (.fn 9 (.pr J0 (.int 5))) J0 p1 h1
 try simp only [smA,smW] at *
 grind
def F38:E:=(.imp (.and J59 (.and J81 (.and J28 (.and (.fn 103 (.pr J0 (.pr J74 J1))) J72)))) (.fn 103 (.pr J0 (.pr J74 J17))))
theorem G38:Tr F38:=ii6 fun ρ p0 p1 p2 p3 p4 p5=>by
 have:=@wrap_add ρ J1 (.int 1)
 have:=fun h0 hm=>@t103_step ρ J1 J74 J17 J0 p3 h0 hm J80 rfl
 try simp only [smA,smW] at *
 grind
namespace p15
def facts:List E:=[F35,F36,F29,F37,F31,F38,F33,F34]
theorem facts_ok:∀ e∈facts,Tr e:=(ac G35 (ac G36 (ac G29 (ac G37 (ac G31 (ac G38 (ac G33 (ac G34 all_nil))))))))
end p15
theorem spec15_0:NatOk Try.prog (specNat (spIF 79 true)) :=
 spec_of_check good (facts:=p15.facts) p15.facts_ok (anns:=annIF 79 true) (plainAnns_ok _ (by kernel_rfl)) (nats:=natl16) natl16_ok (n:=3000) (by kernel_rfl)
def natl17:List Nat1:=specNat (spIF 79 true)::natl16
theorem natl17_ok:∀ x∈natl17,NatOk Try.prog x:=by
 intro x hx
 rcases List.mem_cons.1 hx with rfl | hx
 ·exact spec15_0
 exact natl16_ok x hx

def F39:E:=(.cmp .eql (.fn 131 (.pr J0 (.pr J25 (.int 0)))) (.int 0))
theorem G39:Tr F39:=fun ρ=>by
 unfold F39
 have:=@t131_zero ρ J0 J25 (.int 0)
 try simp only [smA,smW] at *
 grind
def F40:E:=(.imp (.and J85 (.and J86 J4)) (.iff J4 (.fn 114 (.pr J0 J25))))
theorem G40:Tr F40:=ii3 fun ρ p0 p1 p2=>by
 have:=@t114_nth ρ J0 J25 J1
 try simp only [smA,smW] at *
 grind
def F41:E:=(.imp J90 J19)
theorem G41:Tr F41:=ii3 fun ρ p0 p1 p2=>by
 try simp only [smA,smW] at *
 have:=@fn0_nn ρ J0
 obtain ⟨a3,ea3,qa3⟩:=cs_i64 ((E.I ρ J1) + (1))
 try simp only [ea3] at *
 omega
def F42:E:=(.imp (.and (.not J85) J91) (.iff J22 (.fn 114 (.pr J0 J25))))
theorem G42:Tr F42:=ii2 fun ρ p0 p1=>by
 have:=@t131_end ρ J0 J25 J1
 try simp only [smA,smW] at *
 grind
def F43:E:=(.imp (.and J85 J4) (.not (.cmp .lss (.fn 0 J0) J17)))
theorem G43:Tr F43:=ii2 fun ρ p0 p1=>by
 try simp only [smA,smW] at *
 obtain ⟨a3,ea3,qa3⟩:=cs_i64 ((E.I ρ J1) + (1))
 try simp only [ea3] at *
 omega
def F44:E:=(.imp (.and J85 (.and (.not J86) (.and J91 J89))) (.cmp .eql (.fn 131 (.pr J0 (.pr J25 J17))) (.int 0)))
theorem G44:Tr F44:=ii5 fun ρ p0 p1 p2 p3 p4=>by
 have:=@wrap_add ρ J1 (.int 1)
 have:=@t131_step ρ J0 J25 J1 J17
 try simp only [smA,smW] at *
 grind
def F45:E:=(.imp J90 (.cmp .lss (.fn 7 (.pr (.fn 0 J0) J17)) (.fn 7 (.pr (.fn 0 J0) J1))))
theorem G45:Tr F45:=ii3 fun ρ p0 p1 p2=>by
 try simp only [smA,smW] at *
 have:=@fn0_nn ρ J0
 obtain ⟨a3,ea3,qa3⟩:=cs_i64 ((E.I ρ J1) + (1))
 try simp only [ea3] at *
 omega
def F46:E:=(.imp (.and J85 J4) (.not (.cmp .lss (.fn 7 (.pr (.fn 0 J0) J17)) (.int 0))))
theorem G46:Tr F46:=ii2 fun ρ p0 p1=>by
 try simp only [smA,smW] at *
 obtain ⟨a3,ea3,qa3⟩:=cs_i64 ((E.I ρ J1) + (1))
 try simp only [ea3] at *
 omega
namespace p16
def facts:List E:=[F39,F40,F41,F42,F43,F44,F45,F46]
theorem facts_ok:∀ e∈facts,Tr e:=(ac G39 (ac G40 (ac G41 (ac G42 (ac G43 (ac G44 (ac G45 (ac G46 all_nil))))))))
end p16
theorem spec16_0:NatOk Try.prog (specNat (spIx)) :=
 spec_of_check good (facts:=p16.facts) p16.facts_ok (anns:=annIx) (plainAnns_ok _ (by kernel_rfl)) (nats:=natl17) natl17_ok (n:=3000) (by kernel_rfl)
def natl18:List Nat1:=specNat (spIx)::natl17
theorem natl18_ok:∀ x∈natl18,NatOk Try.prog x:=by
 intro x hx
 rcases List.mem_cons.1 hx with rfl | hx
 ·exact spec16_0
 exact natl17_ok x hx

def F47:E:=(.imp (.and J43 J92) J104)
theorem G47:Tr F47:=ii2 fun ρ p0 p1=>by
 have:=@z137 ρ J0 J25 J26 J27 J1 J28 J45 J93 J94
 try simp only [smA,smW] at *
 grind
def F48:E:=(.imp (.and J43 (.and J4 J105)) J104)
theorem G48:Tr F48:=ii3 fun ρ p0 p1 p2=>by
 have:=@z137 ρ J0 J25 J26 J27 J1 J28 J45 J93 J94
 try simp only [smA,smW] at *
 grind
def F49:E:=(.imp (.and J43 (.and J4 (.and J106 J107))) J104)
theorem G49:Tr F49:=ii4 fun ρ p0 p1 p2 p3=>by
 have:=@z137 ρ J0 J25 J26 J27 J1 J28 J45 J93 J94
 try simp only [smA,smW] at *
 grind
def F50:E:=(.imp (.and J43 (.and J4 (.and J106 (.and J47 J108)))) J104)
theorem G50:Tr F50:=ii5 fun ρ p0 p1 p2 p3 p4=>by
 have:=@z137 ρ J0 J25 J26 J27 J1 J28 J45 J93 J94
 try simp only [smA,smW] at *
 grind
def F51:E:=(.imp (.and J43 (.and J4 (.and J106 (.and J47 (.and J109 J110))))) J104)
theorem G51:Tr F51:=ii6 fun ρ p0 p1 p2 p3 p4 p5=>by
 have:=@z137 ρ J0 J25 J26 J27 J1 J28 J45 J93 J94
 try simp only [smA,smW] at *
 grind
def F52:E:=(.imp (.and J43 (.and J4 (.and J106 (.and J47 (.and J109 (.and J112 J113)))))) J104)
theorem G52:Tr F52:=ii7 fun ρ p0 p1 p2 p3 p4 p5 p6=>by
 have:=@z137 ρ J0 J25 J26 J27 J1 J28 J45 J93 J94
 try simp only [smA,smW] at *
 grind
def F53:E:=(.imp (.and J43 (.and J4 (.and J106 (.and J47 (.and J109 (.and J112 (.and (.not J114) (.and J115 (.and J116 (.and J117 (.and J119 (.and J120 (.and (.not J121) J133))))))))))))) J134)
theorem G53:Tr F53:=ii19 fun ρ p0 p1 p2 p3 p4 p5 p6 p7 p8 p9 p10 p11 p12 p13 p14 p15 p16 p17 p18=>by
 have:=@z137 ρ J0 J25 J26 J27 J1 J28 J45 J93 J94
 try simp only [smA,smW] at *
 grind
def F54:E:=(.imp (.and J43 (.and J4 (.and J106 (.and J47 (.and J109 (.and J112 (.and (.not J114) (.and J115 (.and J116 (.and J117 (.and J119 (.and J120 (.and J121 J133))))))))))))) J135)
theorem G54:Tr F54:=ii19 fun ρ p0 p1 p2 p3 p4 p5 p6 p7 p8 p9 p10 p11 p12 p13 p14 p15 p16 p17 p18=>by
 have:=@z137 ρ J0 J25 J26 J27 J1 J28 J45 J93 J94
 try simp only [smA,smW] at *
 grind
def F55:E:=(.imp (.and J117 (.and J119 (.not J120))) J104)
theorem G55:Tr F55:=ii3 fun ρ p0 p1 p2=>by
 have:=@z137 ρ J0 J25 J26 J27 J1 J28 J45 J93 J94
 try simp only [smA,smW] at *
 grind
def F56:E:=(.imp (.and J117 J118) J104)
theorem G56:Tr F56:=ii2 fun ρ p0 p1=>by
 have:=@z137 ρ J0 J25 J26 J27 J1 J28 J45 J93 J94
 try simp only [smA,smW] at *
 grind
def F57:E:=(.imp (.and J117 J127) J104)
theorem G57:Tr F57:=ii2 fun ρ p0 p1=>by
 have:=@z137 ρ J0 J25 J26 J27 J1 J28 J45 J93 J94
 try simp only [smA,smW] at *
 grind
def F58:E:=(.imp (.cmp .lss J0 (.int 1)) J104)
theorem G58:Tr F58:=ii1 fun ρ p0=>by
 have:=@z137 ρ J0 J25 J26 J27 J1 J28 J45 J93 J94
 try simp only [smA,smW] at *
 grind
def F59:E:=(.imp (.and (.not J114) (.and J115 (.not J116))) J104)
theorem G59:Tr F59:=ii3 fun ρ p0 p1 p2=>by
 have:=@z137 ρ J0 J25 J26 J27 J1 J28 J45 J93 J94
 try simp only [smA,smW] at *
 grind
def F60:E:=(.imp (.and (.not J114) (.not J115)) J104)
theorem G60:Tr F60:=ii2 fun ρ p0 p1=>by
 have:=@z137 ρ J0 J25 J26 J27 J1 J28 J45 J93 J94
 try simp only [smA,smW] at *
 grind
def F61:E:=(.imp (.and J43 (.and J4 (.and J106 (.and J47 (.and J109 (.and J112 (.and J114 (.and J117 (.and (.not J121) J137))))))))) J134)
theorem G61:Tr F61:=ii16 fun ρ p0 p1 p2 p3 p4 p5 p6 p7 p8 p9 p10 p11 p12 p13 p14 p15=>by
 have:=@z137 ρ J0 J25 J26 J27 J1 J28 J45 J93 J94
 try simp only [smA,smW] at *
 grind
def F62:E:=(.imp (.and J43 (.and J4 (.and J106 (.and J47 (.and J109 (.and J112 (.and J114 (.and J117 (.and J121 J137))))))))) J135)
theorem G62:Tr F62:=ii16 fun ρ p0 p1 p2 p3 p4 p5 p6 p7 p8 p9 p10 p11 p12 p13 p14 p15=>by
 have:=@z137 ρ J0 J25 J26 J27 J1 J28 J45 J93 J94
 try simp only [smA,smW] at *
 grind
def F63:E:=(.imp (.and J43 (.and J4 (.and J106 (.and J47 (.and J109 J111))))) J104)
theorem G63:Tr F63:=ii6 fun ρ p0 p1 p2 p3 p4 p5=>by
 have:=@z137 ρ J0 J25 J26 J27 J1 J28 J45 J93 J94
 try simp only [smA,smW] at *
 grind
def F64:E:=(.imp (.and J43 (.and J4 (.and J106 (.and J47 (.cmp .lss J93 (.int 0)))))) J104)
theorem G64:Tr F64:=ii5 fun ρ p0 p1 p2 p3 p4=>by
 have:=@z137 ρ J0 J25 J26 J27 J1 J28 J45 J93 J94
 try simp only [smA,smW] at *
 grind
def F65:E:=(.imp (.and J43 (.and J4 (.and J106 J46))) J104)
theorem G65:Tr F65:=ii4 fun ρ p0 p1 p2 p3=>by
 have:=@z137 ρ J0 J25 J26 J27 J1 J28 J45 J93 J94
 try simp only [smA,smW] at *
 grind
def F66:E:=(.imp (.and J43 (.and J4 (.cmp .lss J28 (.int 0)))) J104)
theorem G66:Tr F66:=ii3 fun ρ p0 p1 p2=>by
 have:=@z137 ρ J0 J25 J26 J27 J1 J28 J45 J93 J94
 try simp only [smA,smW] at *
 grind
def F67:E:=(.imp (.and J43 (.cmp .lss J1 (.int 0))) J104)
theorem G67:Tr F67:=ii2 fun ρ p0 p1=>by
 have:=@z137 ρ J0 J25 J26 J27 J1 J28 J45 J93 J94
 try simp only [smA,smW] at *
 grind
def F68:E:=(.imp J42 J104)
theorem G68:Tr F68:=ii1 fun ρ p0=>by
 have:=@z137 ρ J0 J25 J26 J27 J1 J28 J45 J93 J94
 try simp only [smA,smW] at *
 grind
namespace p17
def facts:List E:=[F47,F48,F49,F50,F51,F52,F53,F54,F55,F56,F57,F58,F59,F60,F61,F62,F63,F64,F65,F66,F67,F68]
theorem facts_ok:∀ e∈facts,Tr e:=(ac G47 (ac G48 (ac G49 (ac G50 (ac G51 (ac G52 (ac G53 (ac G54 (ac G55 (ac G56 (ac G57 (ac G58 (ac G59 (ac G60 (ac G61 (ac G62 (ac G63 (ac G64 (ac G65 (ac G66 (ac G67 (ac G68 all_nil))))))))))))))))))))))
end p17
theorem spec17_0:NatOk Try.prog (specNat (spOV 106)) :=
 spec_of_check good (facts:=p17.facts) p17.facts_ok (anns:=[]) (plainAnns_ok _ (by kernel_rfl)) (nats:=natl18) natl18_ok (n:=3000) (by kernel_rfl)
def natl19:List Nat1:=specNat (spOV 106)::natl18
theorem natl19_ok:∀ x∈natl19,NatOk Try.prog x:=by
 intro x hx
 rcases List.mem_cons.1 hx with rfl | hx
 ·exact spec17_0
 exact natl18_ok x hx

def F69:E:=(.fn 104 (.pr (.fn 10 (.int 0)) (.pr J0 (.pr (.int 0) J138))))
theorem G69:Tr F69:=fun ρ=>by
 unfold F69
 exact t104_start (by (try simp only [sm_I_int]); omega) (by (try simp only [sm_I_int]); omega) (by (try simp only [sm_I_int]); omega)
def F70:E:=(.imp J139 (.not (.cmp .lss (.int 40) (.fn 0 (.fn 1 (.pr J0 (.int 6)))))))
theorem G70:Tr F70:=ii1 fun ρ p0=>by
 have:=t117 p0
 try simp only [smA,smW] at *
 have:=@fn0_nn ρ (.fn 1 (.pr J0 (.int 6)))
 omega
def F71:E:=(.imp J139 (.not (.cmp .lss (.int 40) (.fn 0 (.fn 1 (.pr J0 (.int 7)))))))
theorem G71:Tr F71:=ii1 fun ρ p0=>by
 have:=t117 p0
 try simp only [smA,smW] at *
 have:=@fn0_nn ρ (.fn 1 (.pr J0 (.int 7)))
 omega
def F72:E:=(.imp J139 (.not (.cmp .lss (.int 40) (.fn 0 (.fn 1 (.pr J0 (.int 8)))))))
theorem G72:Tr F72:=ii1 fun ρ p0=>by
 have:=t117 p0
 try simp only [smA,smW] at *
 have:=@fn0_nn ρ (.fn 1 (.pr J0 (.int 8)))
 omega
def F73:E:=(.imp J139 (.not (.cmp .lss (.int 40) (.fn 0 (.fn 1 (.pr J0 (.int 9)))))))
theorem G73:Tr F73:=ii1 fun ρ p0=>by
 have:=t117 p0
 try simp only [smA,smW] at *
 have:=@fn0_nn ρ (.fn 1 (.pr J0 (.int 9)))
 omega
def F74:E:=(.imp J140 (.not (.cmp .lss J141 (.int 0))))
theorem G74:Tr F74:=ii1 fun ρ p0=>by
 try simp only [smA,smW] at *
 obtain ⟨a1,ea1,qa1⟩:=cs_i64 ((E.I ρ J94) + (1))
 try simp only [ea1] at *
 omega
def F75:E:=(.imp J139 (.not (.cmp .lss (.int 40) (.fn 0 (.fn 1 (.pr J0 (.int 20)))))))
theorem G75:Tr F75:=ii1 fun ρ p0=>by
 have:=t117 p0
 try simp only [smA,smW] at *
 have:=@fn0_nn ρ (.fn 1 (.pr J0 (.int 20)))
 omega
def F76:E:=(.imp J139 (.not (.cmp .lss (.int 40) (.fn 0 (.fn 1 (.pr J0 (.int 21)))))))
theorem G76:Tr F76:=ii1 fun ρ p0=>by
 have:=t117 p0
 try simp only [smA,smW] at *
 have:=@fn0_nn ρ (.fn 1 (.pr J0 (.int 21)))
 omega
def F77:E:=(.imp J139 (.not (.cmp .lss (.int 40) (.fn 0 (.fn 1 (.pr J0 (.int 22)))))))
theorem G77:Tr F77:=ii1 fun ρ p0=>by
 have:=t117 p0
 try simp only [smA,smW] at *
 have:=@fn0_nn ρ (.fn 1 (.pr J0 (.int 22)))
 omega
def F78:E:=(.imp J139 (.not (.cmp .lss (.int 40) (.fn 0 (.fn 1 (.pr J0 (.int 23)))))))
theorem G78:Tr F78:=ii1 fun ρ p0=>by
 have:=t117 p0
 try simp only [smA,smW] at *
 have:=@fn0_nn ρ (.fn 1 (.pr J0 (.int 23)))
 omega
def F79:E:=(.imp J142 (.not (.cmp .lss J141 (.int 0))))
theorem G79:Tr F79:=ii1 fun ρ p0=>by
 try simp only [smA,smW] at *
 obtain ⟨a1,ea1,qa1⟩:=cs_i64 ((E.I ρ J94) + (1))
 try simp only [ea1] at *
 omega
def F80:E:=(.imp J139 (.not (.cmp .lss (.int 20) (.fn 9 (.pr (.fn 1 (.pr J0 (.int 29))) (.int 5))))))
theorem G80:Tr F80:=ii1 fun ρ p0=>by
 have:=t117 p0
 try simp only [smA,smW] at *
 omega
def F81:E:=(.imp (.and J144 (.and J139 J140)) (.fn 109 (.pr (.fn 1 (.pr J0 (.int 6))) J145)))
theorem G81:Tr F81:=ii3 fun ρ p0 p1 p2=>by
 obtain ⟨g0,g1⟩:E.I ρ J94=(0)∧E.I ρ J143=(0):=by
  have:=t117 p1
  try simp only [smA,smW] at *
  omega
 exact t109 0 0 6 (by decide) (by decide) g0 g1
def F82:E:=(.imp (.and J146 (.and J139 J140)) (.fn 109 (.pr (.fn 1 (.pr J0 (.int 7))) J145)))
theorem G82:Tr F82:=ii3 fun ρ p0 p1 p2=>by
 obtain ⟨g0,g1⟩:E.I ρ J94=(0)∧E.I ρ J143=(1):=by
  have:=t117 p1
  try simp only [smA,smW] at *
  omega
 exact t109 0 1 7 (by decide) (by decide) g0 g1
def F83:E:=(.imp (.and J147 (.and J139 J140)) (.fn 109 (.pr (.fn 1 (.pr J0 (.int 8))) J145)))
theorem G83:Tr F83:=ii3 fun ρ p0 p1 p2=>by
 obtain ⟨g0,g1⟩:E.I ρ J94=(0)∧E.I ρ J143=(2):=by
  have:=t117 p1
  try simp only [smA,smW] at *
  omega
 exact t109 0 2 8 (by decide) (by decide) g0 g1
def F84:E:=(.imp (.and (.not J144) (.and (.not J146) (.and (.not J147) (.and J139 J152)))) (.fn 109 (.pr (.fn 1 (.pr J0 (.int 9))) J145)))
theorem G84:Tr F84:=ii7 fun ρ p0 p1 p2 p3 p4 p5 p6=>by
 obtain ⟨g0,g1⟩:E.I ρ J94=(0)∧E.I ρ J143=(3):=by
  have:=t117 p3
  try simp only [smA,smW] at *
  omega
 exact t109 0 3 9 (by decide) (by decide) g0 g1
def F85:E:=(.imp J140 (.not (.cmp .lss (.int 2) J141)))
theorem G85:Tr F85:=ii1 fun ρ p0=>by
 try simp only [smA,smW] at *
 obtain ⟨a1,ea1,qa1⟩:=cs_i64 ((E.I ρ J94) + (1))
 try simp only [ea1] at *
 omega
def F86:E:=(.imp (.and J142 (.and J144 J139)) (.fn 109 (.pr (.fn 1 (.pr J0 (.int 20))) J145)))
theorem G86:Tr F86:=ii3 fun ρ p0 p1 p2=>by
 obtain ⟨g0,g1⟩:E.I ρ J94=(1)∧E.I ρ J143=(0):=by
  have:=t117 p2
  try simp only [smA,smW] at *
  omega
 exact t109 1 0 20 (by decide) (by decide) g0 g1
def F87:E:=(.imp (.and J142 (.and J146 J139)) (.fn 109 (.pr (.fn 1 (.pr J0 (.int 21))) J145)))
theorem G87:Tr F87:=ii3 fun ρ p0 p1 p2=>by
 obtain ⟨g0,g1⟩:E.I ρ J94=(1)∧E.I ρ J143=(1):=by
  have:=t117 p2
  try simp only [smA,smW] at *
  omega
 exact t109 1 1 21 (by decide) (by decide) g0 g1
def F88:E:=(.imp (.and J142 (.and J147 J139)) (.fn 109 (.pr (.fn 1 (.pr J0 (.int 22))) J145)))
theorem G88:Tr F88:=ii3 fun ρ p0 p1 p2=>by
 obtain ⟨g0,g1⟩:E.I ρ J94=(1)∧E.I ρ J143=(2):=by
  have:=t117 p2
  try simp only [smA,smW] at *
  omega
 exact t109 1 2 22 (by decide) (by decide) g0 g1
def F89:E:=(.imp (.and J142 (.and (.not J144) (.and (.not J146) (.and (.not J147) (.and J139 J153))))) (.fn 109 (.pr (.fn 1 (.pr J0 (.int 23))) J145)))
theorem G89:Tr F89:=ii7 fun ρ p0 p1 p2 p3 p4 p5 p6=>by
 obtain ⟨g0,g1⟩:E.I ρ J94=(1)∧E.I ρ J143=(3):=by
  have:=t117 p4
  try simp only [smA,smW] at *
  omega
 exact t109 1 3 23 (by decide) (by decide) g0 g1
def F90:E:=(.imp J142 (.not (.cmp .lss (.int 2) J141)))
theorem G90:Tr F90:=ii1 fun ρ p0=>by
 try simp only [smA,smW] at *
 obtain ⟨a1,ea1,qa1⟩:=cs_i64 ((E.I ρ J94) + (1))
 try simp only [ea1] at *
 omega
def F91:E:=(.imp (.and (.not (.cmp .lss J94 (.int 2))) (.and J139 (.and (.fn 104 (.pr (.var 9) (.pr J0 (.pr J94 J138)))) (.not (.cmp .lss (.int 2) J94))))) (.fn 105 (.pr (.var 9) (.pr J0 (.int 0)))))
theorem G91:Tr F91:=ii4 fun ρ p0 p1 p2 p3=>by
 have g0:E.I ρ J94=(2):=by
  have:=t117 p1
  try simp only [smA,smW] at *
  omega
 have g1:E.I ρ (.int 0)=E.I ρ (.int 0):=rfl
 have g2:E.I ρ (.int 0)=E.I ρ (.int 0):=rfl
 have g3:E.I ρ (.int 0)=E.I ρ (.int 0):=rfl
 exact t105_start p2 g0 g1 g2 g3
def F92:E:=(.imp (.and J156 (.and (.fn 33 (.pr J157 (.fn 1 (.pr J155 J154)))) (.and J158 (.and J159 J162)))) J163)
theorem G92:Tr F92:=ii8 fun ρ p0 p1 p2 p3 p4 p5 p6 p7=>by
 have:=@t104_put ρ J154 J94 J143 (.fn 6 (.pr J154 (.int 1))) J157 J0 J155 p2 p3
 try simp only [smA,smW] at *
 grind
def F93:E:=(.imp J167 (.not (.cmp .lss J168 (.int 0))))
theorem G93:Tr F93:=ii3 fun ρ p0 p1 p2=>by
 try simp only [smA,smW] at *
 have:=@fn0_nn ρ J155
 obtain ⟨a2,ea2,qa2⟩:=cs_i64 ((E.I ρ J154) + (1))
 try simp only [ea2] at *
 omega
def F94:E:=(.imp J153 (.not (.cmp .lss J169 (.int 0))))
theorem G94:Tr F94:=ii2 fun ρ p0 p1=>by
 try simp only [smA,smW] at *
 obtain ⟨a1,ea1,qa1⟩:=cs_i64 ((E.I ρ J143) + (1))
 try simp only [ea1] at *
 omega
def F95:E:=(.imp (.and J142 (.and J156 (.and (.fn 33 (.pr J157 (.fn 1 (.pr J155 J154)))) (.and J158 (.and J159 J170))))) J163)
theorem G95:Tr F95:=ii8 fun ρ p0 p1 p2 p3 p4 p5 p6 p7=>by
 have:=@t104_put ρ J154 J94 J143 (.fn 6 (.pr J154 (.int 1))) J157 J0 J155 p3 p4
 try simp only [smA,smW] at *
 grind
def F96:E:=(.imp (.and (.not J148) (.and J139 (.and J140 J171))) J173)
theorem G96:Tr F96:=ii5 fun ρ p0 p1 p2 p3 p4=>by
 obtain ⟨g0,g1,g2,g3,g4⟩:(0)≤E.I ρ J94∧(0)≤E.I ρ J143∧(0)≤E.I ρ J141∧(0)≤(0)∧E.I ρ (.fn 6 (.pr (.fn 8 (.pr J141 (.int 4))) (.int 0)))=E.I ρ (.fn 6 (.pr (.fn 8 (.pr J94 (.int 4))) J143)):=by
  have:=t117 p1
  try simp only [smA,smW] at *
  obtain ⟨a2,ea2,qa2⟩:=cs_i64 ((E.I ρ J94) + (1))
  try simp only [ea2] at *
  omega
 have g5:E.I ρ (.int 0)=E.I ρ (.int 0):=rfl
 exact t104_eq p3 (by (try simp only [sm_I_int]); omega) (by (try simp only [sm_I_int]); omega) (by (try simp only [sm_I_int]); omega) (by (try simp only [sm_I_int]); omega) g4 g5
def F97:E:=(.imp (.and J142 (.and (.not J148) (.and J139 J171))) J173)
theorem G97:Tr F97:=ii5 fun ρ p0 p1 p2 p3 p4=>by
 obtain ⟨g0,g1,g2,g3,g4⟩:(0)≤E.I ρ J94∧(0)≤E.I ρ J143∧(0)≤E.I ρ J141∧(0)≤(0)∧E.I ρ (.fn 6 (.pr (.fn 8 (.pr J141 (.int 4))) (.int 0)))=E.I ρ (.fn 6 (.pr (.fn 8 (.pr J94 (.int 4))) J143)):=by
  have:=t117 p2
  try simp only [smA,smW] at *
  obtain ⟨a2,ea2,qa2⟩:=cs_i64 ((E.I ρ J94) + (1))
  try simp only [ea2] at *
  omega
 have g5:E.I ρ (.int 0)=E.I ρ (.int 0):=rfl
 exact t104_eq p3 (by (try simp only [sm_I_int]); omega) (by (try simp only [sm_I_int]); omega) (by (try simp only [sm_I_int]); omega) (by (try simp only [sm_I_int]); omega) g4 g5
def F98:E:=(.fn 106 (.pr (.fn 10 (.int 0)) (.pr J0 (.int 0))))
theorem G98:Tr F98:=fun ρ=>by
 unfold F98
 have g3:E.I ρ (.int 0)=E.I ρ (.int 0):=rfl
 exact t106_start g3
def F99:E:=(.imp J174 (.not (.cmp .lss (.fn 0 J155) J168)))
theorem G99:Tr F99:=ii2 fun ρ p0 p1=>by
 try simp only [smA,smW] at *
 obtain ⟨a2,ea2,qa2⟩:=cs_i64 ((E.I ρ J154) + (1))
 try simp only [ea2] at *
 omega
def F100:E:=(.imp J153 (.not (.cmp .lss (.int 4) J169)))
theorem G100:Tr F100:=ii2 fun ρ p0 p1=>by
 try simp only [smA,smW] at *
 obtain ⟨a1,ea1,qa1⟩:=cs_i64 ((E.I ρ J143) + (1))
 try simp only [ea1] at *
 omega
def F101:E:=(.imp J140 J175)
theorem G101:Tr F101:=ii1 fun ρ p0=>by
 try simp only [smA,smW] at *
 obtain ⟨a1,ea1,qa1⟩:=cs_i64 ((E.I ρ J94) + (1))
 try simp only [ea1] at *
 omega
def F102:E:=(.imp J142 J175)
theorem G102:Tr F102:=ii1 fun ρ p0=>by
 try simp only [smA,smW] at *
 obtain ⟨a1,ea1,qa1⟩:=cs_i64 ((E.I ρ J94) + (1))
 try simp only [ea1] at *
 omega
def F103:E:=(.imp (.and J177 (.and J178 (.and (.fn 33 (.pr J179 (.fn 1 (.pr (.fn 1 (.pr J0 (.int 29))) (.fn 6 (.pr (.fn 8 (.pr J176 (.int 5))) (.int 1))))))) J189))) J163)
theorem G103:Tr F103:=ii6 fun ρ p0 p1 p2 p3 p4 p5=>by
 have:=fun a b hn=>@t_stk ρ (.fn 6 (.pr J176 (.int 1))) J179 J0 J180 J176 p4 p3 a b hn (.fn 1 (.pr (.fn 1 (.pr J0 (.int 29))) (.fn 6 (.pr (.fn 8 (.pr J176 (.int 5))) (.int 0))))) (.fn 1 (.pr (.fn 1 (.pr J0 (.int 29))) (.fn 6 (.pr (.fn 8 (.pr J176 (.int 5))) (.int 1))))) (.fn 1 (.pr (.fn 1 (.pr J0 (.int 29))) (.fn 6 (.pr (.fn 8 (.pr J176 (.int 5))) (.int 2))))) (.fn 1 (.pr (.fn 1 (.pr J0 (.int 29))) (.fn 6 (.pr (.fn 8 (.pr J176 (.int 5))) (.int 3))))) rfl rfl rfl rfl
 try simp only [smA,smW] at *
 grind
def F104:E:=(.imp J190 (.not (.cmp .lss J191 (.int 0))))
theorem G104:Tr F104:=ii3 fun ρ p0 p1 p2=>by
 have:=t117 p0
 try simp only [smA,smW] at *
 obtain ⟨a2,ea2,qa2⟩:=cs_i64 ((E.I ρ J176) + (1))
 try simp only [ea2] at *
 omega
def F105:E:=(.imp J139 (.not (.cmp .lss (.int 30) (.fn 9 (.pr (.fn 1 (.pr J0 (.int 0))) (.int 12))))))
theorem G105:Tr F105:=ii1 fun ρ p0=>by
 have:=t117 p0
 try simp only [smA,smW] at *
 omega
def F106:E:=(.imp (.and J156 (.and J192 (.and J158 (.and J159 (.and J165 J162))))) J194)
theorem G106:Tr F106:=ii9 fun ρ p0 p1 p2 p3 p4 p5 p6 p7 p8=>by
 have:=@wrap_add ρ J154 (.int 1)
 have:=@t104_put ρ J154 J94 J143 J168 J157 J0 J155 p2 p3
 try simp only [smA,smW] at *
 grind
def F107:E:=(.imp (.and (.not J156) (.and J139 (.and J158 (.and J159 (.and (.not (.cmp .lss (.fn 0 J155) J154)) J153))))) (.fn 104 (.pr J157 (.pr J0 (.pr J94 (.pr J169 (.int 0)))))))
theorem G107:Tr F107:=ii7 fun ρ p0 p1 p2 p3 p4 p5 p6=>by
 obtain ⟨g0,g1,g2⟩:(0)≤E.I ρ J143∧E.I ρ J154=E.I ρ (.fn 0 J155)∧E.I ρ J169=E.I ρ (.fn 6 (.pr J143 (.int 1))):=by
  have:=t117 p1
  try simp only [smA,smW] at *
  have:=@fn0_nn ρ J155
  obtain ⟨a3,ea3,qa3⟩:=cs_i64 ((E.I ρ J143) + (1))
  try simp only [ea3] at *
  omega
 have g3:E.I ρ (.int 0)=E.I ρ (.int 0):=rfl
 exact t104_next p2 p3 (by (try simp only [sm_I_int]); omega) g1 g2 g3
def F108:E:=(.imp (.and J142 (.and J156 (.and J192 (.and J158 (.and J159 (.and J165 J170)))))) J194)
theorem G108:Tr F108:=ii9 fun ρ p0 p1 p2 p3 p4 p5 p6 p7 p8=>by
 have:=@wrap_add ρ J154 (.int 1)
 have:=@t104_put ρ J154 J94 J143 J168 J157 J0 J155 p3 p4
 try simp only [smA,smW] at *
 grind
def F109:E:=(.imp J140 J196)
theorem G109:Tr F109:=ii1 fun ρ p0=>by
 try simp only [smA,smW] at *
 obtain ⟨a1,ea1,qa1⟩:=cs_i64 ((E.I ρ J94) + (1))
 try simp only [ea1] at *
 omega
def F110:E:=(.imp J142 J196)
theorem G110:Tr F110:=ii1 fun ρ p0=>by
 try simp only [smA,smW] at *
 obtain ⟨a1,ea1,qa1⟩:=cs_i64 ((E.I ρ J94) + (1))
 try simp only [ea1] at *
 omega
def F111:E:=(.imp J190 (.not (.cmp .lss (.fn 9 (.pr (.fn 1 (.pr J0 (.int 29))) (.int 5))) J191)))
theorem G111:Tr F111:=ii3 fun ρ p0 p1 p2=>by
 have:=t117 p0
 try simp only [smA,smW] at *
 obtain ⟨a2,ea2,qa2⟩:=cs_i64 ((E.I ρ J176) + (1))
 try simp only [ea2] at *
 omega
def F112:E:=(.imp (.and (.not J177) (.and J139 (.and J185 J198))) (.fn 105 (.pr J179 J199)))
theorem G112:Tr F112:=ii4 fun ρ p0 p1 p2 p3=>by
 have g0:E.I ρ (.fn 9 (.pr (.fn 1 (.pr J0 (.int 29))) (.int 5)))=E.I ρ J176:=by
  have:=t117 p1
  have:=nn9 ρ (.pr (.fn 1 (.pr J0 (.int 29))) (.int 5))
  try simp only [smA,smW] at *
  omega
 exact t105_eq p2 g0
def F113:E:=(.imp J167 (.cmp .lss (.fn 7 (.pr (.fn 0 J155) J168)) (.fn 7 (.pr (.fn 0 J155) J154))))
theorem G113:Tr F113:=ii3 fun ρ p0 p1 p2=>by
 try simp only [smA,smW] at *
 have:=@fn0_nn ρ J155
 obtain ⟨a2,ea2,qa2⟩:=cs_i64 ((E.I ρ J154) + (1))
 try simp only [ea2] at *
 omega
def F114:E:=(.imp J153 (.cmp .lss (.fn 7 (.pr (.int 4) J169)) (.fn 7 (.pr (.int 4) J143))))
theorem G114:Tr F114:=ii2 fun ρ p0 p1=>by
 try simp only [smA,smW] at *
 obtain ⟨a1,ea1,qa1⟩:=cs_i64 ((E.I ρ J143) + (1))
 try simp only [ea1] at *
 omega
def F115:E:=(.imp J204 (.fn 105 (.pr (.fn 34 (.pr J179 (.pr (.fn 1 (.pr (.fn 1 (.pr J0 (.int 29))) (.fn 6 (.pr (.fn 8 (.pr J176 (.int 5))) (.int 1))))) (.fn 1 (.pr (.fn 1 (.pr J0 (.int 29))) (.fn 6 (.pr (.fn 8 (.pr J176 (.int 5))) (.int 0)))))))) (.pr J0 J191))))
theorem G115:Tr F115:=ii7 fun ρ p0 p1 p2 p3 p4 p5 p6=>by
 have:=t117 p3
 have:=@wrap_add ρ J176 (.int 1)
 have:=fun a b hn=>@t_stk ρ J191 J179 J0 J180 J176 p5 p4 a b hn (.fn 1 (.pr (.fn 1 (.pr J0 (.int 29))) (.fn 6 (.pr (.fn 8 (.pr J176 (.int 5))) (.int 0))))) (.fn 1 (.pr (.fn 1 (.pr J0 (.int 29))) (.fn 6 (.pr (.fn 8 (.pr J176 (.int 5))) (.int 1))))) (.fn 1 (.pr (.fn 1 (.pr J0 (.int 29))) (.fn 6 (.pr (.fn 8 (.pr J176 (.int 5))) (.int 2))))) (.fn 1 (.pr (.fn 1 (.pr J0 (.int 29))) (.fn 6 (.pr (.fn 8 (.pr J176 (.int 5))) (.int 3))))) rfl rfl rfl rfl
 try simp only [smA,smW] at *
 grind
def F116:E:=(.imp J206 (.fn 105 (.pr J179 (.pr J0 J191))))
theorem G116:Tr F116:=ii6 fun ρ p0 p1 p2 p3 p4 p5=>by
 have:=t117 p2
 have:=@wrap_add ρ J176 (.int 1)
 have:=fun a b hn=>@t_stk ρ J191 J179 J0 J180 J176 p4 p3 a b hn (.fn 1 (.pr (.fn 1 (.pr J0 (.int 29))) (.fn 6 (.pr (.fn 8 (.pr J176 (.int 5))) (.int 0))))) (.fn 1 (.pr (.fn 1 (.pr J0 (.int 29))) (.fn 6 (.pr (.fn 8 (.pr J176 (.int 5))) (.int 1))))) (.fn 1 (.pr (.fn 1 (.pr J0 (.int 29))) (.fn 6 (.pr (.fn 8 (.pr J176 (.int 5))) (.int 2))))) (.fn 1 (.pr (.fn 1 (.pr J0 (.int 29))) (.fn 6 (.pr (.fn 8 (.pr J176 (.int 5))) (.int 3))))) rfl rfl rfl rfl
 try simp only [smA,smW] at *
 grind
def F117:E:=(.imp (.and (.not J177) (.and J139 (.and J183 J198))) (.fn 106 (.pr J180 J199)))
theorem G117:Tr F117:=ii4 fun ρ p0 p1 p2 p3=>by
 have g0:E.I ρ (.fn 9 (.pr (.fn 1 (.pr J0 (.int 29))) (.int 5)))=E.I ρ J176:=by
  have:=t117 p1
  have:=nn9 ρ (.pr (.fn 1 (.pr J0 (.int 29))) (.int 5))
  try simp only [smA,smW] at *
  omega
 exact t106_eq p2 g0
def F118:E:=(.imp J174 (.not (.cmp .lss (.fn 7 (.pr (.fn 0 J155) J168)) (.int 0))))
theorem G118:Tr F118:=ii2 fun ρ p0 p1=>by
 try simp only [smA,smW] at *
 obtain ⟨a2,ea2,qa2⟩:=cs_i64 ((E.I ρ J154) + (1))
 try simp only [ea2] at *
 omega
def F119:E:=(.imp J153 (.not (.cmp .lss (.fn 7 (.pr (.int 4) J169)) (.int 0))))
theorem G119:Tr F119:=ii2 fun ρ p0 p1=>by
 try simp only [smA,smW] at *
 obtain ⟨a1,ea1,qa1⟩:=cs_i64 ((E.I ρ J143) + (1))
 try simp only [ea1] at *
 omega
def F120:E:=(.imp J204 (.fn 106 (.pr (.fn 34 (.pr J180 (.pr (.fn 1 (.pr (.fn 1 (.pr J0 (.int 29))) (.fn 6 (.pr (.fn 8 (.pr J176 (.int 5))) (.int 1))))) (.fn 1 (.pr (.fn 1 (.pr J0 (.int 29))) (.fn 6 (.pr (.fn 8 (.pr J176 (.int 5))) (.int 2)))))))) (.pr J0 J191))))
theorem G120:Tr F120:=ii7 fun ρ p0 p1 p2 p3 p4 p5 p6=>by
 have:=t117 p3
 have:=@wrap_add ρ J176 (.int 1)
 have:=fun a b hn=>@t_stk ρ J191 J179 J0 J180 J176 p5 p4 a b hn (.fn 1 (.pr (.fn 1 (.pr J0 (.int 29))) (.fn 6 (.pr (.fn 8 (.pr J176 (.int 5))) (.int 0))))) (.fn 1 (.pr (.fn 1 (.pr J0 (.int 29))) (.fn 6 (.pr (.fn 8 (.pr J176 (.int 5))) (.int 1))))) (.fn 1 (.pr (.fn 1 (.pr J0 (.int 29))) (.fn 6 (.pr (.fn 8 (.pr J176 (.int 5))) (.int 2))))) (.fn 1 (.pr (.fn 1 (.pr J0 (.int 29))) (.fn 6 (.pr (.fn 8 (.pr J176 (.int 5))) (.int 3))))) rfl rfl rfl rfl
 try simp only [smA,smW] at *
 grind
def F121:E:=(.imp J206 (.fn 106 (.pr J180 (.pr J0 J191))))
theorem G121:Tr F121:=ii6 fun ρ p0 p1 p2 p3 p4 p5=>by
 have:=t117 p2
 have:=@wrap_add ρ J176 (.int 1)
 have:=fun a b hn=>@t_stk ρ J191 J179 J0 J180 J176 p4 p3 a b hn (.fn 1 (.pr (.fn 1 (.pr J0 (.int 29))) (.fn 6 (.pr (.fn 8 (.pr J176 (.int 5))) (.int 0))))) (.fn 1 (.pr (.fn 1 (.pr J0 (.int 29))) (.fn 6 (.pr (.fn 8 (.pr J176 (.int 5))) (.int 1))))) (.fn 1 (.pr (.fn 1 (.pr J0 (.int 29))) (.fn 6 (.pr (.fn 8 (.pr J176 (.int 5))) (.int 2))))) (.fn 1 (.pr (.fn 1 (.pr J0 (.int 29))) (.fn 6 (.pr (.fn 8 (.pr J176 (.int 5))) (.int 3))))) rfl rfl rfl rfl
 try simp only [smA,smW] at *
 grind
def F122:E:=(.fn 107 (.pr J0 (.int 0)))
theorem G122:Tr F122:=fun ρ=>by
 unfold F122
 exact t107_zero (by (try simp only [sm_I_int]); omega)
def F123:E:=(.imp J190 (.cmp .lss (.fn 7 (.pr (.fn 9 (.pr (.fn 1 (.pr J0 (.int 29))) (.int 5))) J191)) (.fn 7 (.pr (.fn 9 (.pr (.fn 1 (.pr J0 (.int 29))) (.int 5))) J176))))
theorem G123:Tr F123:=ii3 fun ρ p0 p1 p2=>by
 have:=t117 p0
 try simp only [smA,smW] at *
 obtain ⟨a2,ea2,qa2⟩:=cs_i64 ((E.I ρ J176) + (1))
 try simp only [ea2] at *
 omega
def F124:E:=(.imp (.and J139 J210) (.not (.cmp .lss J211 (.int 0))))
theorem G124:Tr F124:=ii3 fun ρ p0 p1 p2=>by
 have:=t117 p0
 try simp only [smA,smW] at *
 obtain ⟨a2,ea2,qa2⟩:=cs_i64 ((E.I ρ J207) - (1))
 try simp only [ea2] at *
 omega
def F125:E:=(.imp (.and (.not J208) (.and J212 (.and J214 (.not (.cmp .lss (.fn 9 (.pr (.fn 1 (.pr J0 (.int 0))) (.int 12))) J207))))) (.iff (.cmp .eql (.fn 0 J213) (.fn 9 (.pr (.fn 1 (.pr J0 (.int 0))) (.int 12)))) (.fn 108 J0)))
theorem G125:Tr F125:=ii4 fun ρ p0 p1 p2 p3=>by
 have:=@t_placed ρ J207 J213 J0 p2 p1
 try simp only [smA,smW] at *
 grind
def F126:E:=(.imp J190 (.not (.cmp .lss (.fn 7 (.pr (.fn 9 (.pr (.fn 1 (.pr J0 (.int 29))) (.int 5))) J191)) (.int 0))))
theorem G126:Tr F126:=ii3 fun ρ p0 p1 p2=>by
 have:=t117 p0
 try simp only [smA,smW] at *
 obtain ⟨a2,ea2,qa2⟩:=cs_i64 ((E.I ρ J176) + (1))
 try simp only [ea2] at *
 omega
def F127:E:=(.imp J210 (.cmp .lss J211 (.fn 9 (.pr (.fn 1 (.pr J0 (.int 0))) (.int 12)))))
theorem G127:Tr F127:=ii2 fun ρ p0 p1=>by
 try simp only [smA,smW] at *
 obtain ⟨a2,ea2,qa2⟩:=cs_i64 ((E.I ρ J207) - (1))
 try simp only [ea2] at *
 omega
def F128:E:=(.imp J218 (.not (.cmp .lss J219 (.int 0))))
theorem G128:Tr F128:=ii2 fun ρ p0 p1=>by
 try simp only [smA,smW] at *
 obtain ⟨a1,ea1,qa1⟩:=cs_i64 ((E.I ρ J207) + (1))
 try simp only [ea1] at *
 omega
def F129:E:=(.imp (.and J208 (.and J221 (.and J220 (.and J215 (.and (.fn 33 (.pr J213 (.fn 1 (.pr (.fn 1 (.pr J0 (.int 0))) (.fn 6 (.pr (.fn 8 (.pr J207 (.int 12))) (.int 0))))))) (.and (.fn 33 (.pr J222 (.fn 1 (.pr (.fn 1 (.pr J0 (.int 0))) (.fn 6 (.pr (.fn 8 (.pr J207 (.int 12))) (.int 0))))))) (.and (.not J223) J224))))))) J163)
theorem G129:Tr F129:=ii11 fun ρ p0 p1 p2 p3 p4 p5 p6 p7 p8 p9 p10=>by
 have:=@wrap_sub ρ J207 (.int 1)
 have:=@t_obj10 ρ J207 (.fn 6 (.pr J207 (.int 1))) J213 J0 J222 p9 p8 p7 J211 (.fn 1 (.pr (.fn 1 (.pr J0 (.int 0))) (.fn 6 (.pr (.fn 8 (.pr J207 (.int 12))) (.int 0))))) (.fn 1 (.pr (.fn 1 (.pr J0 (.int 0))) (.fn 6 (.pr (.fn 8 (.pr J207 (.int 12))) (.int 1))))) (.fn 1 (.pr (.fn 1 (.pr J0 (.int 0))) (.fn 6 (.pr (.fn 8 (.pr J207 (.int 12))) (.int 2))))) (.fn 1 (.pr (.fn 1 (.pr J0 (.int 0))) (.fn 6 (.pr (.fn 8 (.pr J207 (.int 12))) (.int 3))))) (.fn 1 (.pr (.fn 1 (.pr J0 (.int 0))) (.fn 6 (.pr (.fn 8 (.pr J207 (.int 12))) (.int 4))))) (.fn 1 (.pr (.fn 1 (.pr J0 (.int 0))) (.fn 6 (.pr (.fn 8 (.pr J207 (.int 12))) (.int 5))))) (.fn 1 (.pr (.fn 1 (.pr J0 (.int 0))) (.fn 6 (.pr (.fn 8 (.pr J207 (.int 12))) (.int 6))))) (.fn 1 (.pr (.fn 1 (.pr J0 (.int 0))) (.fn 6 (.pr (.fn 8 (.pr J207 (.int 12))) (.int 7))))) (.fn 1 (.pr (.fn 1 (.pr J0 (.int 0))) (.fn 6 (.pr (.fn 8 (.pr J207 (.int 12))) (.int 8))))) rfl rfl rfl rfl rfl rfl rfl rfl rfl
 try simp only [smA,smW] at *
 grind
def F130:E:=(.imp (.and J208 (.and J215 (.and (.not J225) J224))) J163)
theorem G130:Tr F130:=ii7 fun ρ p0 p1 p2 p3 p4 p5 p6=>by
 have:=@wrap_sub ρ J207 (.int 1)
 have:=@t_obj10 ρ J207 (.fn 6 (.pr J207 (.int 1))) J213 J0 J222 p5 p4 p3 J211 (.fn 1 (.pr (.fn 1 (.pr J0 (.int 0))) (.fn 6 (.pr (.fn 8 (.pr J207 (.int 12))) (.int 0))))) (.fn 1 (.pr (.fn 1 (.pr J0 (.int 0))) (.fn 6 (.pr (.fn 8 (.pr J207 (.int 12))) (.int 1))))) (.fn 1 (.pr (.fn 1 (.pr J0 (.int 0))) (.fn 6 (.pr (.fn 8 (.pr J207 (.int 12))) (.int 2))))) (.fn 1 (.pr (.fn 1 (.pr J0 (.int 0))) (.fn 6 (.pr (.fn 8 (.pr J207 (.int 12))) (.int 3))))) (.fn 1 (.pr (.fn 1 (.pr J0 (.int 0))) (.fn 6 (.pr (.fn 8 (.pr J207 (.int 12))) (.int 4))))) (.fn 1 (.pr (.fn 1 (.pr J0 (.int 0))) (.fn 6 (.pr (.fn 8 (.pr J207 (.int 12))) (.int 5))))) (.fn 1 (.pr (.fn 1 (.pr J0 (.int 0))) (.fn 6 (.pr (.fn 8 (.pr J207 (.int 12))) (.int 6))))) (.fn 1 (.pr (.fn 1 (.pr J0 (.int 0))) (.fn 6 (.pr (.fn 8 (.pr J207 (.int 12))) (.int 7))))) (.fn 1 (.pr (.fn 1 (.pr J0 (.int 0))) (.fn 6 (.pr (.fn 8 (.pr J207 (.int 12))) (.int 8))))) rfl rfl rfl rfl rfl rfl rfl rfl rfl
 try simp only [smA,smW] at *
 grind
def F131:E:=(.imp (.and J208 (.and J215 (.and J226 J224))) J163)
theorem G131:Tr F131:=ii7 fun ρ p0 p1 p2 p3 p4 p5 p6=>by
 have:=@wrap_sub ρ J207 (.int 1)
 have:=@t_obj10 ρ J207 (.fn 6 (.pr J207 (.int 1))) J213 J0 J222 p5 p4 p3 J211 (.fn 1 (.pr (.fn 1 (.pr J0 (.int 0))) (.fn 6 (.pr (.fn 8 (.pr J207 (.int 12))) (.int 0))))) (.fn 1 (.pr (.fn 1 (.pr J0 (.int 0))) (.fn 6 (.pr (.fn 8 (.pr J207 (.int 12))) (.int 1))))) (.fn 1 (.pr (.fn 1 (.pr J0 (.int 0))) (.fn 6 (.pr (.fn 8 (.pr J207 (.int 12))) (.int 2))))) (.fn 1 (.pr (.fn 1 (.pr J0 (.int 0))) (.fn 6 (.pr (.fn 8 (.pr J207 (.int 12))) (.int 3))))) (.fn 1 (.pr (.fn 1 (.pr J0 (.int 0))) (.fn 6 (.pr (.fn 8 (.pr J207 (.int 12))) (.int 4))))) (.fn 1 (.pr (.fn 1 (.pr J0 (.int 0))) (.fn 6 (.pr (.fn 8 (.pr J207 (.int 12))) (.int 5))))) (.fn 1 (.pr (.fn 1 (.pr J0 (.int 0))) (.fn 6 (.pr (.fn 8 (.pr J207 (.int 12))) (.int 6))))) (.fn 1 (.pr (.fn 1 (.pr J0 (.int 0))) (.fn 6 (.pr (.fn 8 (.pr J207 (.int 12))) (.int 7))))) (.fn 1 (.pr (.fn 1 (.pr J0 (.int 0))) (.fn 6 (.pr (.fn 8 (.pr J207 (.int 12))) (.int 8))))) rfl rfl rfl rfl rfl rfl rfl rfl rfl
 try simp only [smA,smW] at *
 grind
def F132:E:=(.imp (.and J139 J210) (.not (.cmp .lss J219 (.int 0))))
theorem G132:Tr F132:=ii3 fun ρ p0 p1 p2=>by
 have:=t117 p0
 try simp only [smA,smW] at *
 obtain ⟨a2,ea2,qa2⟩:=cs_i64 ((E.I ρ J207) + (1))
 try simp only [ea2] at *
 omega
def F133:E:=(.imp (.and J208 (.and J221 (.and J220 (.and J209 (.and J227 (.and (.fn 33 (.pr J213 (.fn 1 (.pr (.fn 1 (.pr J0 (.int 0))) (.fn 6 (.pr (.fn 8 (.pr J207 (.int 12))) (.int 0))))))) (.and (.fn 33 (.pr J222 (.fn 1 (.pr (.fn 1 (.pr J0 (.int 0))) (.fn 6 (.pr (.fn 8 (.pr J207 (.int 12))) (.int 0))))))) (.and (.not J223) J228)))))))) J163)
theorem G133:Tr F133:=ii13 fun ρ p0 p1 p2 p3 p4 p5 p6 p7 p8 p9 p10 p11 p12=>by
 have:=t117 p12
 have:=@wrap_sub ρ J207 (.int 1)
 have:=@t_obj10 ρ J207 (.fn 6 (.pr J207 (.int 1))) J213 J0 J222 p10 p9 p8 J211 (.fn 1 (.pr (.fn 1 (.pr J0 (.int 0))) (.fn 6 (.pr (.fn 8 (.pr J207 (.int 12))) (.int 0))))) (.fn 1 (.pr (.fn 1 (.pr J0 (.int 0))) (.fn 6 (.pr (.fn 8 (.pr J207 (.int 12))) (.int 1))))) (.fn 1 (.pr (.fn 1 (.pr J0 (.int 0))) (.fn 6 (.pr (.fn 8 (.pr J207 (.int 12))) (.int 2))))) (.fn 1 (.pr (.fn 1 (.pr J0 (.int 0))) (.fn 6 (.pr (.fn 8 (.pr J207 (.int 12))) (.int 3))))) (.fn 1 (.pr (.fn 1 (.pr J0 (.int 0))) (.fn 6 (.pr (.fn 8 (.pr J207 (.int 12))) (.int 4))))) (.fn 1 (.pr (.fn 1 (.pr J0 (.int 0))) (.fn 6 (.pr (.fn 8 (.pr J207 (.int 12))) (.int 5))))) (.fn 1 (.pr (.fn 1 (.pr J0 (.int 0))) (.fn 6 (.pr (.fn 8 (.pr J207 (.int 12))) (.int 6))))) (.fn 1 (.pr (.fn 1 (.pr J0 (.int 0))) (.fn 6 (.pr (.fn 8 (.pr J207 (.int 12))) (.int 7))))) (.fn 1 (.pr (.fn 1 (.pr J0 (.int 0))) (.fn 6 (.pr (.fn 8 (.pr J207 (.int 12))) (.int 8))))) rfl rfl rfl rfl rfl rfl rfl rfl rfl
 try simp only [smA,smW] at *
 grind
def F134:E:=(.imp (.and J208 (.and J209 (.and (.not J225) J228))) J163)
theorem G134:Tr F134:=ii8 fun ρ p0 p1 p2 p3 p4 p5 p6 p7=>by
 have:=t117 p7
 have:=@wrap_sub ρ J207 (.int 1)
 have:=@t_obj10 ρ J207 (.fn 6 (.pr J207 (.int 1))) J213 J0 J222 p5 p4 p3 J211 (.fn 1 (.pr (.fn 1 (.pr J0 (.int 0))) (.fn 6 (.pr (.fn 8 (.pr J207 (.int 12))) (.int 0))))) (.fn 1 (.pr (.fn 1 (.pr J0 (.int 0))) (.fn 6 (.pr (.fn 8 (.pr J207 (.int 12))) (.int 1))))) (.fn 1 (.pr (.fn 1 (.pr J0 (.int 0))) (.fn 6 (.pr (.fn 8 (.pr J207 (.int 12))) (.int 2))))) (.fn 1 (.pr (.fn 1 (.pr J0 (.int 0))) (.fn 6 (.pr (.fn 8 (.pr J207 (.int 12))) (.int 3))))) (.fn 1 (.pr (.fn 1 (.pr J0 (.int 0))) (.fn 6 (.pr (.fn 8 (.pr J207 (.int 12))) (.int 4))))) (.fn 1 (.pr (.fn 1 (.pr J0 (.int 0))) (.fn 6 (.pr (.fn 8 (.pr J207 (.int 12))) (.int 5))))) (.fn 1 (.pr (.fn 1 (.pr J0 (.int 0))) (.fn 6 (.pr (.fn 8 (.pr J207 (.int 12))) (.int 6))))) (.fn 1 (.pr (.fn 1 (.pr J0 (.int 0))) (.fn 6 (.pr (.fn 8 (.pr J207 (.int 12))) (.int 7))))) (.fn 1 (.pr (.fn 1 (.pr J0 (.int 0))) (.fn 6 (.pr (.fn 8 (.pr J207 (.int 12))) (.int 8))))) rfl rfl rfl rfl rfl rfl rfl rfl rfl
 try simp only [smA,smW] at *
 grind
def F135:E:=(.imp (.and J208 (.and J209 (.and J226 J228))) J163)
theorem G135:Tr F135:=ii8 fun ρ p0 p1 p2 p3 p4 p5 p6 p7=>by
 have:=t117 p7
 have:=@wrap_sub ρ J207 (.int 1)
 have:=@t_obj10 ρ J207 (.fn 6 (.pr J207 (.int 1))) J213 J0 J222 p5 p4 p3 J211 (.fn 1 (.pr (.fn 1 (.pr J0 (.int 0))) (.fn 6 (.pr (.fn 8 (.pr J207 (.int 12))) (.int 0))))) (.fn 1 (.pr (.fn 1 (.pr J0 (.int 0))) (.fn 6 (.pr (.fn 8 (.pr J207 (.int 12))) (.int 1))))) (.fn 1 (.pr (.fn 1 (.pr J0 (.int 0))) (.fn 6 (.pr (.fn 8 (.pr J207 (.int 12))) (.int 2))))) (.fn 1 (.pr (.fn 1 (.pr J0 (.int 0))) (.fn 6 (.pr (.fn 8 (.pr J207 (.int 12))) (.int 3))))) (.fn 1 (.pr (.fn 1 (.pr J0 (.int 0))) (.fn 6 (.pr (.fn 8 (.pr J207 (.int 12))) (.int 4))))) (.fn 1 (.pr (.fn 1 (.pr J0 (.int 0))) (.fn 6 (.pr (.fn 8 (.pr J207 (.int 12))) (.int 5))))) (.fn 1 (.pr (.fn 1 (.pr J0 (.int 0))) (.fn 6 (.pr (.fn 8 (.pr J207 (.int 12))) (.int 6))))) (.fn 1 (.pr (.fn 1 (.pr J0 (.int 0))) (.fn 6 (.pr (.fn 8 (.pr J207 (.int 12))) (.int 7))))) (.fn 1 (.pr (.fn 1 (.pr J0 (.int 0))) (.fn 6 (.pr (.fn 8 (.pr J207 (.int 12))) (.int 8))))) rfl rfl rfl rfl rfl rfl rfl rfl rfl
 try simp only [smA,smW] at *
 grind
def F136:E:=(.imp (.and J208 (.and J221 (.and J220 (.and J209 (.and (.not J227) J228))))) J163)
theorem G136:Tr F136:=ii10 fun ρ p0 p1 p2 p3 p4 p5 p6 p7 p8 p9=>by
 have:=t117 p9
 have:=@wrap_sub ρ J207 (.int 1)
 have:=@t_obj10 ρ J207 (.fn 6 (.pr J207 (.int 1))) J213 J0 J222 p7 p6 p5 J211 (.fn 1 (.pr (.fn 1 (.pr J0 (.int 0))) (.fn 6 (.pr (.fn 8 (.pr J207 (.int 12))) (.int 0))))) (.fn 1 (.pr (.fn 1 (.pr J0 (.int 0))) (.fn 6 (.pr (.fn 8 (.pr J207 (.int 12))) (.int 1))))) (.fn 1 (.pr (.fn 1 (.pr J0 (.int 0))) (.fn 6 (.pr (.fn 8 (.pr J207 (.int 12))) (.int 2))))) (.fn 1 (.pr (.fn 1 (.pr J0 (.int 0))) (.fn 6 (.pr (.fn 8 (.pr J207 (.int 12))) (.int 3))))) (.fn 1 (.pr (.fn 1 (.pr J0 (.int 0))) (.fn 6 (.pr (.fn 8 (.pr J207 (.int 12))) (.int 4))))) (.fn 1 (.pr (.fn 1 (.pr J0 (.int 0))) (.fn 6 (.pr (.fn 8 (.pr J207 (.int 12))) (.int 5))))) (.fn 1 (.pr (.fn 1 (.pr J0 (.int 0))) (.fn 6 (.pr (.fn 8 (.pr J207 (.int 12))) (.int 6))))) (.fn 1 (.pr (.fn 1 (.pr J0 (.int 0))) (.fn 6 (.pr (.fn 8 (.pr J207 (.int 12))) (.int 7))))) (.fn 1 (.pr (.fn 1 (.pr J0 (.int 0))) (.fn 6 (.pr (.fn 8 (.pr J207 (.int 12))) (.int 8))))) rfl rfl rfl rfl rfl rfl rfl rfl rfl
 try simp only [smA,smW] at *
 grind
def F137:E:=(.imp (.and J208 (.and J221 (.and (.not J220) J228))) J163)
theorem G137:Tr F137:=ii8 fun ρ p0 p1 p2 p3 p4 p5 p6 p7=>by
 have:=t117 p7
 have:=@wrap_sub ρ J207 (.int 1)
 have:=@t_obj10 ρ J207 (.fn 6 (.pr J207 (.int 1))) J213 J0 J222 p5 p4 p3 J211 (.fn 1 (.pr (.fn 1 (.pr J0 (.int 0))) (.fn 6 (.pr (.fn 8 (.pr J207 (.int 12))) (.int 0))))) (.fn 1 (.pr (.fn 1 (.pr J0 (.int 0))) (.fn 6 (.pr (.fn 8 (.pr J207 (.int 12))) (.int 1))))) (.fn 1 (.pr (.fn 1 (.pr J0 (.int 0))) (.fn 6 (.pr (.fn 8 (.pr J207 (.int 12))) (.int 2))))) (.fn 1 (.pr (.fn 1 (.pr J0 (.int 0))) (.fn 6 (.pr (.fn 8 (.pr J207 (.int 12))) (.int 3))))) (.fn 1 (.pr (.fn 1 (.pr J0 (.int 0))) (.fn 6 (.pr (.fn 8 (.pr J207 (.int 12))) (.int 4))))) (.fn 1 (.pr (.fn 1 (.pr J0 (.int 0))) (.fn 6 (.pr (.fn 8 (.pr J207 (.int 12))) (.int 5))))) (.fn 1 (.pr (.fn 1 (.pr J0 (.int 0))) (.fn 6 (.pr (.fn 8 (.pr J207 (.int 12))) (.int 6))))) (.fn 1 (.pr (.fn 1 (.pr J0 (.int 0))) (.fn 6 (.pr (.fn 8 (.pr J207 (.int 12))) (.int 7))))) (.fn 1 (.pr (.fn 1 (.pr J0 (.int 0))) (.fn 6 (.pr (.fn 8 (.pr J207 (.int 12))) (.int 8))))) rfl rfl rfl rfl rfl rfl rfl rfl rfl
 try simp only [smA,smW] at *
 grind
def F138:E:=(.imp J229 J231)
theorem G138:Tr F138:=ii3 fun ρ p0 p1 p2=>by
 try simp only [smA,smW] at *
 obtain ⟨a2,ea2,qa2⟩:=cs_i64 ((E.I ρ J207) + (1))
 try simp only [ea2] at *
 omega
def F139:E:=(.imp J210 J231)
theorem G139:Tr F139:=ii2 fun ρ p0 p1=>by
 try simp only [smA,smW] at *
 obtain ⟨a2,ea2,qa2⟩:=cs_i64 ((E.I ρ J207) + (1))
 try simp only [ea2] at *
 omega
def F140:E:=(.imp (.and J208 (.and J221 (.and J220 (.and J215 (.and (.fn 33 (.pr J213 (.fn 1 (.pr (.fn 1 (.pr J0 (.int 0))) (.fn 6 (.pr (.fn 8 (.pr J207 (.int 12))) (.int 0))))))) (.and J225 (.and J232 J224))))))) J233)
theorem G140:Tr F140:=ii11 fun ρ p0 p1 p2 p3 p4 p5 p6 p7 p8 p9 p10=>by
 have:=@wrap_add ρ J207 (.int 1)
 have:=@wrap_sub ρ J207 (.int 1)
 have:=@t_obj10 ρ J207 J219 J213 J0 J222 p9 p8 p7 J211 (.fn 1 (.pr (.fn 1 (.pr J0 (.int 0))) (.fn 6 (.pr (.fn 8 (.pr J207 (.int 12))) (.int 0))))) (.fn 1 (.pr (.fn 1 (.pr J0 (.int 0))) (.fn 6 (.pr (.fn 8 (.pr J207 (.int 12))) (.int 1))))) (.fn 1 (.pr (.fn 1 (.pr J0 (.int 0))) (.fn 6 (.pr (.fn 8 (.pr J207 (.int 12))) (.int 2))))) (.fn 1 (.pr (.fn 1 (.pr J0 (.int 0))) (.fn 6 (.pr (.fn 8 (.pr J207 (.int 12))) (.int 3))))) (.fn 1 (.pr (.fn 1 (.pr J0 (.int 0))) (.fn 6 (.pr (.fn 8 (.pr J207 (.int 12))) (.int 4))))) (.fn 1 (.pr (.fn 1 (.pr J0 (.int 0))) (.fn 6 (.pr (.fn 8 (.pr J207 (.int 12))) (.int 5))))) (.fn 1 (.pr (.fn 1 (.pr J0 (.int 0))) (.fn 6 (.pr (.fn 8 (.pr J207 (.int 12))) (.int 6))))) (.fn 1 (.pr (.fn 1 (.pr J0 (.int 0))) (.fn 6 (.pr (.fn 8 (.pr J207 (.int 12))) (.int 7))))) (.fn 1 (.pr (.fn 1 (.pr J0 (.int 0))) (.fn 6 (.pr (.fn 8 (.pr J207 (.int 12))) (.int 8))))) rfl rfl rfl rfl rfl rfl rfl rfl rfl
 try simp only [smA,smW] at *
 grind
def F141:E:=(.imp (.and J208 (.and J221 (.and J220 (.and J215 (.and (.fn 33 (.pr J213 (.fn 1 (.pr (.fn 1 (.pr J0 (.int 0))) (.fn 6 (.pr (.fn 8 (.pr J207 (.int 12))) (.int 0))))))) (.and J225 (.and J223 J224))))))) J233)
theorem G141:Tr F141:=ii11 fun ρ p0 p1 p2 p3 p4 p5 p6 p7 p8 p9 p10=>by
 have:=@wrap_add ρ J207 (.int 1)
 have:=@wrap_sub ρ J207 (.int 1)
 have:=@t_obj10 ρ J207 J219 J213 J0 J222 p9 p8 p7 J211 (.fn 1 (.pr (.fn 1 (.pr J0 (.int 0))) (.fn 6 (.pr (.fn 8 (.pr J207 (.int 12))) (.int 0))))) (.fn 1 (.pr (.fn 1 (.pr J0 (.int 0))) (.fn 6 (.pr (.fn 8 (.pr J207 (.int 12))) (.int 1))))) (.fn 1 (.pr (.fn 1 (.pr J0 (.int 0))) (.fn 6 (.pr (.fn 8 (.pr J207 (.int 12))) (.int 2))))) (.fn 1 (.pr (.fn 1 (.pr J0 (.int 0))) (.fn 6 (.pr (.fn 8 (.pr J207 (.int 12))) (.int 3))))) (.fn 1 (.pr (.fn 1 (.pr J0 (.int 0))) (.fn 6 (.pr (.fn 8 (.pr J207 (.int 12))) (.int 4))))) (.fn 1 (.pr (.fn 1 (.pr J0 (.int 0))) (.fn 6 (.pr (.fn 8 (.pr J207 (.int 12))) (.int 5))))) (.fn 1 (.pr (.fn 1 (.pr J0 (.int 0))) (.fn 6 (.pr (.fn 8 (.pr J207 (.int 12))) (.int 6))))) (.fn 1 (.pr (.fn 1 (.pr J0 (.int 0))) (.fn 6 (.pr (.fn 8 (.pr J207 (.int 12))) (.int 7))))) (.fn 1 (.pr (.fn 1 (.pr J0 (.int 0))) (.fn 6 (.pr (.fn 8 (.pr J207 (.int 12))) (.int 8))))) rfl rfl rfl rfl rfl rfl rfl rfl rfl
 try simp only [smA,smW] at *
 grind
def F142:E:=(.imp (.and J208 (.and J221 (.and J220 (.and J209 (.and J227 (.and (.fn 33 (.pr J213 (.fn 1 (.pr (.fn 1 (.pr J0 (.int 0))) (.fn 6 (.pr (.fn 8 (.pr J207 (.int 12))) (.int 0))))))) (.and J225 (.and J232 J228)))))))) J233)
theorem G142:Tr F142:=ii13 fun ρ p0 p1 p2 p3 p4 p5 p6 p7 p8 p9 p10 p11 p12=>by
 have:=t117 p12
 have:=@wrap_sub ρ J207 (.int 1)
 have:=@wrap_add ρ J207 (.int 1)
 have:=@t_obj10 ρ J207 J219 J213 J0 J222 p10 p9 p8 J211 (.fn 1 (.pr (.fn 1 (.pr J0 (.int 0))) (.fn 6 (.pr (.fn 8 (.pr J207 (.int 12))) (.int 0))))) (.fn 1 (.pr (.fn 1 (.pr J0 (.int 0))) (.fn 6 (.pr (.fn 8 (.pr J207 (.int 12))) (.int 1))))) (.fn 1 (.pr (.fn 1 (.pr J0 (.int 0))) (.fn 6 (.pr (.fn 8 (.pr J207 (.int 12))) (.int 2))))) (.fn 1 (.pr (.fn 1 (.pr J0 (.int 0))) (.fn 6 (.pr (.fn 8 (.pr J207 (.int 12))) (.int 3))))) (.fn 1 (.pr (.fn 1 (.pr J0 (.int 0))) (.fn 6 (.pr (.fn 8 (.pr J207 (.int 12))) (.int 4))))) (.fn 1 (.pr (.fn 1 (.pr J0 (.int 0))) (.fn 6 (.pr (.fn 8 (.pr J207 (.int 12))) (.int 5))))) (.fn 1 (.pr (.fn 1 (.pr J0 (.int 0))) (.fn 6 (.pr (.fn 8 (.pr J207 (.int 12))) (.int 6))))) (.fn 1 (.pr (.fn 1 (.pr J0 (.int 0))) (.fn 6 (.pr (.fn 8 (.pr J207 (.int 12))) (.int 7))))) (.fn 1 (.pr (.fn 1 (.pr J0 (.int 0))) (.fn 6 (.pr (.fn 8 (.pr J207 (.int 12))) (.int 8))))) rfl rfl rfl rfl rfl rfl rfl rfl rfl
 try simp only [smA,smW] at *
 grind
def F143:E:=(.imp (.and J208 (.and J221 (.and J220 (.and J209 (.and J227 (.and (.fn 33 (.pr J213 (.fn 1 (.pr (.fn 1 (.pr J0 (.int 0))) (.fn 6 (.pr (.fn 8 (.pr J207 (.int 12))) (.int 0))))))) (.and J225 (.and J223 J228)))))))) J233)
theorem G143:Tr F143:=ii13 fun ρ p0 p1 p2 p3 p4 p5 p6 p7 p8 p9 p10 p11 p12=>by
 have:=t117 p12
 have:=@wrap_sub ρ J207 (.int 1)
 have:=@wrap_add ρ J207 (.int 1)
 have:=@t_obj10 ρ J207 J219 J213 J0 J222 p10 p9 p8 J211 (.fn 1 (.pr (.fn 1 (.pr J0 (.int 0))) (.fn 6 (.pr (.fn 8 (.pr J207 (.int 12))) (.int 0))))) (.fn 1 (.pr (.fn 1 (.pr J0 (.int 0))) (.fn 6 (.pr (.fn 8 (.pr J207 (.int 12))) (.int 1))))) (.fn 1 (.pr (.fn 1 (.pr J0 (.int 0))) (.fn 6 (.pr (.fn 8 (.pr J207 (.int 12))) (.int 2))))) (.fn 1 (.pr (.fn 1 (.pr J0 (.int 0))) (.fn 6 (.pr (.fn 8 (.pr J207 (.int 12))) (.int 3))))) (.fn 1 (.pr (.fn 1 (.pr J0 (.int 0))) (.fn 6 (.pr (.fn 8 (.pr J207 (.int 12))) (.int 4))))) (.fn 1 (.pr (.fn 1 (.pr J0 (.int 0))) (.fn 6 (.pr (.fn 8 (.pr J207 (.int 12))) (.int 5))))) (.fn 1 (.pr (.fn 1 (.pr J0 (.int 0))) (.fn 6 (.pr (.fn 8 (.pr J207 (.int 12))) (.int 6))))) (.fn 1 (.pr (.fn 1 (.pr J0 (.int 0))) (.fn 6 (.pr (.fn 8 (.pr J207 (.int 12))) (.int 7))))) (.fn 1 (.pr (.fn 1 (.pr J0 (.int 0))) (.fn 6 (.pr (.fn 8 (.pr J207 (.int 12))) (.int 8))))) rfl rfl rfl rfl rfl rfl rfl rfl rfl
 try simp only [smA,smW] at *
 grind
def F144:E:=(.imp J218 J234)
theorem G144:Tr F144:=ii2 fun ρ p0 p1=>by
 try simp only [smA,smW] at *
 obtain ⟨a2,ea2,qa2⟩:=cs_i64 ((E.I ρ J207) + (1))
 try simp only [ea2] at *
 omega
def F145:E:=(.imp (.and J139 J210) J234)
theorem G145:Tr F145:=ii3 fun ρ p0 p1 p2=>by
 have:=t117 p0
 try simp only [smA,smW] at *
 obtain ⟨a2,ea2,qa2⟩:=cs_i64 ((E.I ρ J207) + (1))
 try simp only [ea2] at *
 omega
def F146:E:=(.imp J229 J236)
theorem G146:Tr F146:=ii3 fun ρ p0 p1 p2=>by
 try simp only [smA,smW] at *
 obtain ⟨a2,ea2,qa2⟩:=cs_i64 ((E.I ρ J207) + (1))
 try simp only [ea2] at *
 omega
def F147:E:=(.imp J210 J236)
theorem G147:Tr F147:=ii2 fun ρ p0 p1=>by
 try simp only [smA,smW] at *
 obtain ⟨a2,ea2,qa2⟩:=cs_i64 ((E.I ρ J207) + (1))
 try simp only [ea2] at *
 omega
namespace p18
def facts:List E:=[F69,F70,F71,F72,F73,F74,F75,F76,F77,F78,F79,F80,F81,F82,F83,F84,F85,F86,F87,F88,F89,F90,F91,F92,F93,F94,F95,F96,F97,F98,F99,F100,F101,F102,F103,F104,F105,F106,F107,F108,F109,F110,F111,F112,F113,F114,F115,F116,F117,F118,F119,F120,F121,F122,F123,F124,F125,F126,F127,F128,F129,F130,F131,F132,F133,F134,F135,F136,F137,F138,F139,F140,F141,F142,F143,F144,F145,F146,F147]
theorem facts_ok:∀ e∈facts,Tr e:=(ac G69 (ac G70 (ac G71 (ac G72 (ac G73 (ac G74 (ac G75 (ac G76 (ac G77 (ac G78 (ac G79 (ac G80 (ac G81 (ac G82 (ac G83 (ac G84 (ac G85 (ac G86 (ac G87 (ac G88 (ac G89 (ac G90 (ac G91 (ac G92 (ac G93 (ac G94 (ac G95 (ac G96 (ac G97 (ac G98 (ac G99 (ac G100 (ac G101 (ac G102 (ac G103 (ac G104 (ac G105 (ac G106 (ac G107 (ac G108 (ac G109 (ac G110 (ac G111 (ac G112 (ac G113 (ac G114 (ac G115 (ac G116 (ac G117 (ac G118 (ac G119 (ac G120 (ac G121 (ac G122 (ac G123 (ac G124 (ac G125 (ac G126 (ac G127 (ac G128 (ac G129 (ac G130 (ac G131 (ac G132 (ac G133 (ac G134 (ac G135 (ac G136 (ac G137 (ac G138 (ac G139 (ac G140 (ac G141 (ac G142 (ac G143 (ac G144 (ac G145 (ac G146 (ac G147 all_nil)))))))))))))))))))))))))))))))))))))))))))))))))))))))))))))))))))))))))))))))
end p18
theorem spec18_0:NatOk Try.prog (specNat (spPl)) :=
 spec_of_check good (facts:=p18.facts) p18.facts_ok (anns:=annPl) (plainAnns_ok _ (by kernel_rfl)) (nats:=natl19) natl19_ok (n:=3000) (by kernel_rfl)
def natl20:List Nat1:=specNat (spPl)::natl19
theorem natl20_ok:∀ x∈natl20,NatOk Try.prog x:=by
 intro x hx
 rcases List.mem_cons.1 hx with rfl | hx
 ·exact spec18_0
 exact natl19_ok x hx

end
end Go.Proofs.Ytnnbmcfabojjjaa.paySources
