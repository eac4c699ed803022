/-
  MetaBests: one reckoning by the kernel, over contracts of functions and facts.
-/
import Derived.Test.YtmngplmblanhdaaRows
import Derived.Test.YtmngplmblanhdaaTheory
import Derived.WalkKit
import Derived.ProofKit
import Derived.OpenShut
import Derived.ChangeOld
import Derived.Below
import Derived.KernelRfl
import Derived.Lib.SmallJoins
import Derived.Test.YtmngplmblanhdaaMetaBestsPartb
namespace Go.Proofs.Ytmngplmblanhdaa.metaBests
open Go.ChangeShapes Go.WideShapes Go.ChangeAt Go.RowKit
open Go.SX
set_option linter.unusedVariables false
set_option linter.unusedSimpArgs false
set_option maxRecDepth 100000
noncomputable section
abbrev X0:E:=.var 1
abbrev X1:E:=.var 0
abbrev X2:E:=.cmp .eql (.fn 104 (.pr X0 (.pr (.fn 9 (.pr X0 (.int 3))) X1))) (.int 2)
abbrev X3:E:=.pr (.fn 10 (.int 0)) X1
abbrev X4:E:=.cmp .eql (.fn 104 (.pr X0 (.pr (.fn 9 (.pr X0 (.int 3))) X1))) (.int 0)
abbrev X5:E:=.cmp .eql (.var 7) (.fn 104 (.pr X0 (.pr (.fn 9 (.pr X0 (.int 3))) X1)))
abbrev X6:E:=.cmp .eql (.var 7) (.int 0)
abbrev X7:E:=.not X6
abbrev X8:E:=.and X5 X7
abbrev X9:E:=.and X4 X8
abbrev X10:E:=.var 2
abbrev X11:E:=.cmp .eql (.fn 0 X10) X1
abbrev X12:E:=.cmp .eql (.var 5) (.fn 6 (.pr (.int 0) (.fn 9 (.pr X0 (.int 3)))))
abbrev X13:E:=.var 13
abbrev X14:E:=.cmp .lss X13 (.fn 0 X10)
abbrev X15:E:=.var 12
abbrev X16:E:=.cmp .lss (.fn 1 (.pr X10 X13)) (.int 0)
abbrev X17:E:=.not (.cmp .lss (.int 10) X1)
abbrev X18:E:=.cmp .lss X13 (.int 0)
abbrev X19:E:=.not X18
abbrev X20:E:=.iff X15 (.and X11 (.fn 114 (.pr X10 X13)))
abbrev X21:E:=.and X19 X20
abbrev X22:E:=.and X17 X21
abbrev X23:E:=.ar .add .i64 X13 (.int 1)
abbrev X24:E:=.fn 114 (.pr X10 X23)
abbrev X25:E:=.and X11 X24
abbrev X26:E:=.iff (.bool false) X25
abbrev X27:E:=.cmp .lss (.int 20) (.fn 0 X10)
abbrev X28:E:=.not X27
abbrev X29:E:=.cmp .lss (.fn 0 X10) X13
abbrev X30:E:=.not X29
abbrev X31:E:=.fn 114 (.pr X10 (.fn 0 X10))
abbrev X32:E:=.not (.cmp .lss (.int 1000) (.var 5))
abbrev X33:E:=.and X17 X19
abbrev X34:E:=.and X15 X33
abbrev X35:E:=.and X14 X34
abbrev X36:E:=.and X20 X35
abbrev X37:E:=.and X28 X19
abbrev X38:E:=.and X14 X37
abbrev X39:E:=.and X30 X19
abbrev X40:E:=.and X17 X39
abbrev X41:E:=.and X15 X40
abbrev X42:E:=.and X14 X41
abbrev X43:E:=.and X20 X42
abbrev X44:E:=.and X28 X39
abbrev X45:E:=.and X14 X44
abbrev X46:E:=.cmp .lss X1 (.int 2)
abbrev X47:E:=.not X46
abbrev X48:E:=.and X17 X47
abbrev X49:E:=.ar .sub .i64 X1 (.int 1)
abbrev X50:E:=.cmp .lss (.fn 7 (.pr (.fn 0 X10) X23)) (.fn 7 (.pr (.fn 0 X10) X13))
abbrev X51:E:=.cmp .lss (.fn 7 (.pr (.fn 0 X10) X23)) (.int 0)
abbrev X52:E:=.not X51
abbrev X53:E:=.var 20
abbrev X54:E:=.cmp .lss X53 (.int (-1))
abbrev X55:E:=.not X54
abbrev X56:E:=.cmp .eql (.var 22) (.fn 113 (.pr (.fn 10 (.int 0)) (.pr X10 (.pr X1 (.fn 7 (.pr (.fn 7 (.pr X1 (.int 1))) X53))))))
abbrev X57:E:=.cmp .eql (.var 21) (.fn 112 (.pr (.fn 10 (.int 0)) (.pr X10 (.pr X1 (.fn 7 (.pr (.fn 7 (.pr X1 (.int 1))) X53))))))
abbrev X58:E:=.cmp .lss X53 (.int 0)
abbrev X59:E:=.cmp .eql (.var 21) (.fn 110 (.pr (.var 10) (.pr X10 (.pr X1 X1))))
abbrev X60:E:=.cmp .eql (.var 22) (.fn 111 (.pr (.var 10) (.pr X10 (.pr X1 X1))))
abbrev X61:E:=.and X60 (.bool true)
abbrev X62:E:=.and X59 X61
abbrev X63:E:=.iff (.var 24) X62
abbrev X64:E:=.imp (.and X11 X31) X63
abbrev X65:E:=.and X58 X64
abbrev X66:E:=.and X47 X65
abbrev X67:E:=.cmp .eql (.var 22) (.fn 113 (.pr X0 (.pr X10 (.pr X1 (.fn 7 (.pr (.fn 7 (.pr X1 (.int 1))) X53))))))
abbrev X68:E:=.cmp .eql (.var 21) (.fn 112 (.pr X0 (.pr X10 (.pr X1 (.fn 7 (.pr (.fn 7 (.pr X1 (.int 1))) X53))))))
abbrev X69:E:=.var 31
abbrev X70:E:=.cmp .lss X69 X1
abbrev X71:E:=.not (.cmp .lss X1 X69)
abbrev X72:E:=.not X70
abbrev X73:E:=.var 30
abbrev X74:E:=.cmp .lss X73 (.var 22)
abbrev X75:E:=.cmp .eql X73 (.fn 108 (.pr (.fn 10 (.int 0)) (.pr X10 (.pr X53 X69))))
abbrev X76:E:=.not X58
abbrev X77:E:=.cmp .lss X53 X1
abbrev X78:E:=.and X77 (.and X56 X17)
abbrev X79:E:=.and X76 X78
abbrev X80:E:=.and X75 X79
abbrev X81:E:=.and X71 X80
abbrev X82:E:=.and (.not X74) X81
abbrev X83:E:=.and X72 X82
abbrev X84:E:=.ar .sub .i64 X53 (.int 1)
abbrev X85:E:=.cmp .eql X73 (.fn 108 (.pr X0 (.pr X10 (.pr X53 X69))))
abbrev X86:E:=.and X17 (.and X85 X67)
abbrev X87:E:=.and X77 X86
abbrev X88:E:=.and X76 X87
abbrev X89:E:=.and X71 X88
abbrev X90:E:=.and (.not X74) X89
abbrev X91:E:=.and X72 X90
abbrev X92:E:=.var 34
abbrev X93:E:=.cmp .lss (.int 1000) X92
abbrev X94:E:=.not X93
abbrev X95:E:=.cmp .lss X92 (.int 0)
abbrev X96:E:=.not X95
abbrev X97:E:=.cmp .lss X69 (.int 0)
abbrev X98:E:=.not X97
abbrev X99:E:=.cmp .lss (.fn 8 (.pr X69 (.int 1000000))) X73
abbrev X100:E:=.not X99
abbrev X101:E:=.cmp .lss X73 (.int 0)
abbrev X102:E:=.not X101
abbrev X103:E:=.and X31 (.and X11 X17)
abbrev X104:E:=.ar .add .i64 X73 (.ar .mul .i64 (.fn 1 (.pr X10 X69)) X92)
abbrev X105:E:=.ar .add .i64 X69 (.int 1)
abbrev X106:E:=.and X102 X103
abbrev X107:E:=.and X100 X106
abbrev X108:E:=.and X98 X107
abbrev X109:E:=.and X96 X108
abbrev X110:E:=.and X94 X109
abbrev X111:E:=.and X70 X110
abbrev X112:E:=.and X55 X17
abbrev X113:E:=.and X77 X112
abbrev X114:E:=.and X76 X113
abbrev X115:E:=.and X98 X17
abbrev X116:E:=.and X70 X115
abbrev X117:E:=.and X71 X115
abbrev X118:E:=.and X70 X117
def F172:E:=(.imp (.and X2 (.cmp .eql (.var 4) (.fn 104 (.pr X0 (.pr (.fn 9 (.pr X0 (.int 3))) X1))))) (.cmp .eql (.var 4) (.int 2)))
theorem G172:Tr F172:=ii2 fun ρ p0 p1=>by
 try simp only [smA,smW] at *
 grind
def F173:E:=(.imp (.fn 116 (.pr (.var 3) X1)) (.fn 118 (.pr (.var 3) X3)))
theorem G173:Tr F173:=ii1 fun ρ p0=>by
 have:=@t118_nil ρ _ _ (.int 0) p0
 try simp only [smA,smW] at *
 grind
def F174:E:=(.imp (.and X2 (.and (.cmp .eql (.var 5) (.fn 104 (.pr X0 (.pr (.fn 9 (.pr X0 (.int 3))) X1)))) (.cmp .eql (.var 5) (.int 0)))) (.fn 118 (.pr (.var 3) (.pr X0 X1))))
theorem G174:Tr F174:=ii3 fun ρ p0 p1 p2=>by
 try simp only [smA,smW] at *
 grind
def F175:E:=(.imp (.and X4 (.cmp .eql (.var 6) (.fn 104 (.pr X0 (.pr (.fn 9 (.pr X0 (.int 3))) X1))))) (.cmp .eql (.var 6) (.int 0)))
theorem G175:Tr F175:=ii2 fun ρ p0 p1=>by
 try simp only [smA,smW] at *
 grind
def F176:E:=(.imp X9 (.fn 118 (.pr (.var 4) X3)))
theorem G176:Tr F176:=ii3 fun ρ p0 p1 p2=>by
 try simp only [smA,smW] at *
 grind
def F177:E:=(.imp (.and (.fn 116 (.pr (.var 3) X1)) (.fn 103 (.pr (.var 4) (.pr (.var 3) (.pr X0 (.pr (.fn 9 (.pr X0 (.int 3))) X1)))))) (.fn 118 (.pr (.var 4) (.pr X0 X1))))
theorem G177:Tr F177:=ii2 fun ρ p0 p1=>by
 have:=@t118_of ρ _ _ _ _ p1 p0
 try simp only [smA,smW] at *
 grind
def F178:E:=(.iff X11 (.and X11 (.fn 114 (.pr X10 (.int 0)))))
theorem G178:Tr F178:=fun ρ=>by
 unfold F178
 have:=@t114_zero ρ X10 (.int 0)
 try simp only [smA,smW] at *
 grind
def F179:E:=(.imp X9 (.not (.cmp .lss (.var 5) (.int 0))))
theorem G179:Tr F179:=ii3 fun ρ p0 p1 p2=>by
 try simp only [smA,smW] at *
 grind
def F180:E:=(.imp X12 (.not (.cmp .lss (.var 5) (.int 0))))
theorem G180:Tr F180:=ii1 fun ρ p0=>by
 have:=@rw3_nn ρ (.pr X0 (.int 3))
 try simp only [smA,smW] at *
 grind
def F181:E:=(.imp (.and X14 (.and X15 (.and (.not X16) X22))) (.iff (.not (.cmp .lss (.int 1000) (.fn 1 (.pr X10 X13)))) X25))
theorem G181:Tr F181:=ii6 fun ρ p0 p1 p2 p3 p4 p5=>by
 have:=@wrap_add ρ X13 (.int 1)
 have:=@t114_step ρ X10 X13 X23
 try simp only [smA,smW] at *
 grind
def F182:E:=(.imp (.and X14 (.and X15 (.and X16 X22))) X26)
theorem G182:Tr F182:=ii6 fun ρ p0 p1 p2 p3 p4 p5=>by
 have:=@wrap_add ρ X13 (.int 1)
 have:=@t114_step ρ X10 X13 X23
 try simp only [smA,smW] at *
 grind
def F183:E:=(.imp (.and X14 (.and (.not X15) (.and X28 X21))) X26)
theorem G183:Tr F183:=ii5 fun ρ p0 p1 p2 p3 p4=>by
 have:=@wrap_add ρ X13 (.int 1)
 have:=@t114_step ρ X10 X13 X23
 try simp only [smA,smW] at *
 grind
def F184:E:=(.imp (.and X30 (.and X20 (.and (.not X14) (.and (.not X15) (.imp (.not (.and X11 X31)) (.iff (.var 14) (.and (.bool true) (.and (.bool true) (.bool true))))))))) (.var 14))
theorem G184:Tr F184:=ii5 fun ρ p0 p1 p2 p3 p4=>by
 have:=@t114_congr ρ X10 (.fn 0 X10) X13
 try simp only [smA,smW] at *
 grind
def F185:E:=(.imp (.and X20 X15) X11)
theorem G185:Tr F185:=ii2 fun ρ p0 p1=>by
 try simp only [smA,smW] at *
 grind
def F186:E:=(.imp X9 X32)
theorem G186:Tr F186:=ii3 fun ρ p0 p1 p2=>by
 try simp only [smA,smW] at *
 grind
def F187:E:=(.imp (.and (.not (.cmp .lss (.int 60) (.fn 9 (.pr X0 (.int 3))))) X12) X32)
theorem G187:Tr F187:=ii2 fun ρ p0 p1=>by
 try simp only [smA,smW] at *
 grind
def F188:E:=(.imp X36 (.not (.cmp .lss X23 (.int 0))))
theorem G188:Tr F188:=ii5 fun ρ p0 p1 p2 p3 p4=>by
 try simp only [smA,smW] at *
 obtain ⟨a7,ea7,qa7⟩:=cs_i64 ((E.I ρ X13) + (1))
 try simp only [ea7] at *
 grind
def F189:E:=(.imp X38 (.not (.cmp .lss X23 (.int 0))))
theorem G189:Tr F189:=ii3 fun ρ p0 p1 p2=>by
 try simp only [smA,smW] at *
 obtain ⟨a6,ea6,qa6⟩:=cs_i64 ((E.I ρ X13) + (1))
 try simp only [ea6] at *
 grind
def F190:E:=(.imp (.and (.not X14) (.and X15 (.and X30 X20))) X31)
theorem G190:Tr F190:=ii4 fun ρ p0 p1 p2 p3=>by
 have:=@t114_congr ρ X10 X13 (.fn 0 X10)
 try simp only [smA,smW] at *
 grind
def F191:E:=(.imp X43 (.not (.cmp .lss (.fn 0 X10) X23)))
theorem G191:Tr F191:=ii6 fun ρ p0 p1 p2 p3 p4 p5=>by
 try simp only [smA,smW] at *
 obtain ⟨a7,ea7,qa7⟩:=cs_i64 ((E.I ρ X13) + (1))
 try simp only [ea7] at *
 grind
def F192:E:=(.imp X45 (.not (.cmp .lss (.fn 0 X10) X23)))
theorem G192:Tr F192:=ii4 fun ρ p0 p1 p2 p3=>by
 try simp only [smA,smW] at *
 obtain ⟨a6,ea6,qa6⟩:=cs_i64 ((E.I ρ X13) + (1))
 try simp only [ea6] at *
 grind
def F193:E:=(.imp X48 (.cmp .eql (.fn 112 (.pr (.fn 10 (.int 0)) (.pr X10 (.pr X1 (.fn 7 (.pr (.fn 7 (.pr X1 (.int 1))) X49)))))) (.int 0)))
theorem G193:Tr F193:=ii2 fun ρ p0 p1=>by
 have:=@wrap_sub ρ X1 (.int 1)
 have:=@t112_zero ρ (.fn 10 (.int 0)) X10 X1 (.fn 7 (.pr (.fn 7 (.pr X1 (.int 1))) X49))
 try simp only [smA,smW] at *
 grind
def F194:E:=(.imp X48 (.cmp .eql (.fn 112 (.pr X0 (.pr X10 (.pr X1 (.fn 7 (.pr (.fn 7 (.pr X1 (.int 1))) X49)))))) (.int 0)))
theorem G194:Tr F194:=ii2 fun ρ p0 p1=>by
 have:=@wrap_sub ρ X1 (.int 1)
 have:=@t112_zero ρ X0 X10 X1 (.fn 7 (.pr (.fn 7 (.pr X1 (.int 1))) X49))
 try simp only [smA,smW] at *
 grind
def F195:E:=(.imp X36 X50)
theorem G195:Tr F195:=ii5 fun ρ p0 p1 p2 p3 p4=>by
 try simp only [smA,smW] at *
 obtain ⟨a7,ea7,qa7⟩:=cs_i64 ((E.I ρ X13) + (1))
 try simp only [ea7] at *
 grind
def F196:E:=(.imp X38 X50)
theorem G196:Tr F196:=ii3 fun ρ p0 p1 p2=>by
 try simp only [smA,smW] at *
 obtain ⟨a6,ea6,qa6⟩:=cs_i64 ((E.I ρ X13) + (1))
 try simp only [ea6] at *
 grind
def F197:E:=(.imp X48 (.cmp .eql (.fn 113 (.pr (.fn 10 (.int 0)) (.pr X10 (.pr X1 (.fn 7 (.pr (.fn 7 (.pr X1 (.int 1))) X49)))))) (.int 0)))
theorem G197:Tr F197:=ii2 fun ρ p0 p1=>by
 have:=@wrap_sub ρ X1 (.int 1)
 have:=@t112_zero ρ (.fn 10 (.int 0)) X10 X1 (.fn 7 (.pr (.fn 7 (.pr X1 (.int 1))) X49))
 try simp only [smA,smW] at *
 grind
def F198:E:=(.imp X48 (.cmp .eql (.fn 113 (.pr X0 (.pr X10 (.pr X1 (.fn 7 (.pr (.fn 7 (.pr X1 (.int 1))) X49)))))) (.int 0)))
theorem G198:Tr F198:=ii2 fun ρ p0 p1=>by
 have:=@wrap_sub ρ X1 (.int 1)
 have:=@t112_zero ρ X0 X10 X1 (.fn 7 (.pr (.fn 7 (.pr X1 (.int 1))) X49))
 try simp only [smA,smW] at *
 grind
def F199:E:=(.imp X43 X52)
theorem G199:Tr F199:=ii6 fun ρ p0 p1 p2 p3 p4 p5=>by
 try simp only [smA,smW] at *
 obtain ⟨a7,ea7,qa7⟩:=cs_i64 ((E.I ρ X13) + (1))
 try simp only [ea7] at *
 grind
def F200:E:=(.imp X45 X52)
theorem G200:Tr F200:=ii4 fun ρ p0 p1 p2 p3=>by
 try simp only [smA,smW] at *
 obtain ⟨a6,ea6,qa6⟩:=cs_i64 ((E.I ρ X13) + (1))
 try simp only [ea6] at *
 grind
def F201:E:=(.imp X48 (.not (.cmp .lss X49 (.int (-1)))))
theorem G201:Tr F201:=ii2 fun ρ p0 p1=>by
 try simp only [smA,smW] at *
 obtain ⟨a6,ea6,qa6⟩:=cs_i64 ((E.I ρ X1) - (1))
 try simp only [ea6] at *
 grind
def F202:E:=(.imp X48 (.cmp .lss X49 X1))
theorem G202:Tr F202:=ii2 fun ρ p0 p1=>by
 try simp only [smA,smW] at *
 obtain ⟨a6,ea6,qa6⟩:=cs_i64 ((E.I ρ X1) - (1))
 try simp only [ea6] at *
 grind
def F203:E:=(.cmp .eql (.fn 108 (.pr (.fn 10 (.int 0)) (.pr X10 (.pr X53 (.int 0))))) (.int 0))
theorem G203:Tr F203:=fun ρ=>by
 unfold F203
 have:=@t108_zero ρ (.fn 10 (.int 0)) X10 X53 (.int 0)
 try simp only [smA,smW] at *
 grind
def F204:E:=(.imp (.and X55 (.and X56 (.and X57 (.and X31 (.and X11 (.and (.fn 118 (.pr (.var 10) X3)) X66)))))) (.var 24))
theorem G204:Tr F204:=ii9 fun ρ p0 p1 p2 p3 p4 p5 p6 p7 p8=>by
 have:=@t_best ρ _ _ X10 _ (.fn 7 (.pr (.fn 7 (.pr X1 (.int 1))) X53)) p5
 try simp only [smA,smW] at *
 grind
def F205:E:=(.cmp .eql (.fn 108 (.pr X0 (.pr X10 (.pr X53 (.int 0))))) (.int 0))
theorem G205:Tr F205:=fun ρ=>by
 unfold F205
 have:=@t108_zero ρ X0 X10 X53 (.int 0)
 try simp only [smA,smW] at *
 grind
def F206:E:=(.imp (.and X55 (.and X67 (.and X68 (.and X31 (.and X11 (.and (.fn 118 (.pr (.var 10) (.pr X0 X1))) X66)))))) (.var 24))
theorem G206:Tr F206:=ii9 fun ρ p0 p1 p2 p3 p4 p5 p6 p7 p8=>by
 have:=@t_best ρ _ _ X10 _ (.fn 7 (.pr (.fn 7 (.pr X1 (.int 1))) X53)) p5
 try simp only [smA,smW] at *
 grind
def F207:E:=(.imp (.and X70 (.and X71 X11)) (.cmp .lss X69 (.fn 0 X10)))
theorem G207:Tr F207:=ii3 fun ρ p0 p1 p2=>by
 try simp only [smA,smW] at *
 grind
def F208:E:=(.imp X83 (.cmp .eql X53 (.fn 112 (.pr (.fn 10 (.int 0)) (.pr X10 (.pr X1 (.fn 7 (.pr (.fn 7 (.pr X1 (.int 1))) X84))))))))
theorem G208:Tr F208:=ii8 fun ρ p0 p1 p2 p3 p4 p5 p6 p7=>by
 have:=@wrap_sub ρ X53 (.int 1)
 have:=@t112_step ρ (.fn 10 (.int 0)) X10 X53 X1 (.fn 7 (.pr (.fn 7 (.pr X1 (.int 1))) X84)) (.fn 7 (.pr (.fn 7 (.pr X1 (.int 1))) X53))
 have:=@t108_congr ρ (.fn 10 (.int 0)) X10 X53 X69 X1
 try simp only [smA,smW] at *
 grind
def F209:E:=(.imp (.and X72 (.and X74 (.and X71 (.and X75 (.and X76 (.and X77 (.and X56 (.and X57 X17)))))))) (.cmp .eql (.var 21) (.fn 112 (.pr (.fn 10 (.int 0)) (.pr X10 (.pr X1 (.fn 7 (.pr (.fn 7 (.pr X1 (.int 1))) X84))))))))
theorem G209:Tr F209:=ii9 fun ρ p0 p1 p2 p3 p4 p5 p6 p7 p8=>by
 have:=@wrap_sub ρ X53 (.int 1)
 have:=@t112_step ρ (.fn 10 (.int 0)) X10 X53 X1 (.fn 7 (.pr (.fn 7 (.pr X1 (.int 1))) X84)) (.fn 7 (.pr (.fn 7 (.pr X1 (.int 1))) X53))
 have:=@t108_congr ρ (.fn 10 (.int 0)) X10 X53 X69 X1
 try simp only [smA,smW] at *
 grind
def F210:E:=(.imp X91 (.cmp .eql X53 (.fn 112 (.pr X0 (.pr X10 (.pr X1 (.fn 7 (.pr (.fn 7 (.pr X1 (.int 1))) X84))))))))
theorem G210:Tr F210:=ii8 fun ρ p0 p1 p2 p3 p4 p5 p6 p7=>by
 have:=@wrap_sub ρ X53 (.int 1)
 have:=@t112_step ρ X0 X10 X53 X1 (.fn 7 (.pr (.fn 7 (.pr X1 (.int 1))) X84)) (.fn 7 (.pr (.fn 7 (.pr X1 (.int 1))) X53))
 have:=@t108_congr ρ X0 X10 X53 X69 X1
 try simp only [smA,smW] at *
 grind
def F211:E:=(.imp (.and X72 (.and X74 (.and X71 (.and X76 (.and X77 (.and X17 (.and X85 (.and X67 X68)))))))) (.cmp .eql (.var 21) (.fn 112 (.pr X0 (.pr X10 (.pr X1 (.fn 7 (.pr (.fn 7 (.pr X1 (.int 1))) X84))))))))
theorem G211:Tr F211:=ii9 fun ρ p0 p1 p2 p3 p4 p5 p6 p7 p8=>by
 have:=@wrap_sub ρ X53 (.int 1)
 have:=@t112_step ρ X0 X10 X53 X1 (.fn 7 (.pr (.fn 7 (.pr X1 (.int 1))) X84)) (.fn 7 (.pr (.fn 7 (.pr X1 (.int 1))) X53))
 have:=@t108_congr ρ X0 X10 X53 X69 X1
 try simp only [smA,smW] at *
 grind
def F212:E:=(.imp (.and X70 (.and X94 (.and X96 (.and (.cmp .eql X92 (.fn 106 (.pr (.fn 10 (.int 0)) (.pr X53 X69)))) (.and X98 (.and X100 (.and X102 (.and X75 X103)))))))) (.cmp .eql X104 (.fn 108 (.pr (.fn 10 (.int 0)) (.pr X10 (.pr X53 X105))))))
theorem G212:Tr F212:=ii11 fun ρ p0 p1 p2 p3 p4 p5 p6 p7 p8 p9 p10=>by
 have:=@wrap_add ρ X69 (.int 1)
 have:=fun e=>@t114_at ρ X10 X69 (.fn 0 X10) e
 have:=@t108_step ρ (.fn 10 (.int 0)) X10 X53 X69 X105
 have:=@prod_le (E.I ρ (.fn 1 (.pr X10 X69))) (E.I ρ X92)
 try simp only [smA,smW] at *
 obtain ⟨a17,ea17,qa17⟩:=cs_i64 ((E.I ρ (.fn 1 (.pr X10 X69))) * (E.I ρ X92))
 try simp only [ea17] at *
 obtain ⟨a18,ea18,qa18⟩:=cs_i64 ((E.I ρ X73) + a17)
 try simp only [ea18] at *
 grind
def F213:E:=(.imp X83 (.cmp .eql X73 (.fn 113 (.pr (.fn 10 (.int 0)) (.pr X10 (.pr X1 (.fn 7 (.pr (.fn 7 (.pr X1 (.int 1))) X84))))))))
theorem G213:Tr F213:=ii8 fun ρ p0 p1 p2 p3 p4 p5 p6 p7=>by
 have:=@wrap_sub ρ X53 (.int 1)
 have:=@t112_step ρ (.fn 10 (.int 0)) X10 X53 X1 (.fn 7 (.pr (.fn 7 (.pr X1 (.int 1))) X84)) (.fn 7 (.pr (.fn 7 (.pr X1 (.int 1))) X53))
 have:=@t108_congr ρ (.fn 10 (.int 0)) X10 X53 X69 X1
 try simp only [smA,smW] at *
 grind
def F214:E:=(.imp (.and X72 (.and X74 X81)) (.cmp .eql (.var 22) (.fn 113 (.pr (.fn 10 (.int 0)) (.pr X10 (.pr X1 (.fn 7 (.pr (.fn 7 (.pr X1 (.int 1))) X84))))))))
theorem G214:Tr F214:=ii8 fun ρ p0 p1 p2 p3 p4 p5 p6 p7=>by
 have:=@wrap_sub ρ X53 (.int 1)
 have:=@t112_step ρ (.fn 10 (.int 0)) X10 X53 X1 (.fn 7 (.pr (.fn 7 (.pr X1 (.int 1))) X84)) (.fn 7 (.pr (.fn 7 (.pr X1 (.int 1))) X53))
 have:=@t108_congr ρ (.fn 10 (.int 0)) X10 X53 X69 X1
 try simp only [smA,smW] at *
 grind
def F215:E:=(.imp (.and X70 (.and X94 (.and X96 (.and (.cmp .eql X92 (.fn 106 (.pr X0 (.pr X53 X69)))) (.and X98 (.and X100 (.and X102 (.and X31 (.and X11 (.and X17 X85)))))))))) (.cmp .eql X104 (.fn 108 (.pr X0 (.pr X10 (.pr X53 X105))))))
theorem G215:Tr F215:=ii11 fun ρ p0 p1 p2 p3 p4 p5 p6 p7 p8 p9 p10=>by
 have:=@wrap_add ρ X69 (.int 1)
 have:=fun e=>@t114_at ρ X10 X69 (.fn 0 X10) e
 have:=@t108_step ρ X0 X10 X53 X69 X105
 have:=@prod_le (E.I ρ (.fn 1 (.pr X10 X69))) (E.I ρ X92)
 try simp only [smA,smW] at *
 obtain ⟨a17,ea17,qa17⟩:=cs_i64 ((E.I ρ (.fn 1 (.pr X10 X69))) * (E.I ρ X92))
 try simp only [ea17] at *
 obtain ⟨a18,ea18,qa18⟩:=cs_i64 ((E.I ρ X73) + a17)
 try simp only [ea18] at *
 grind
def F216:E:=(.imp X91 (.cmp .eql X73 (.fn 113 (.pr X0 (.pr X10 (.pr X1 (.fn 7 (.pr (.fn 7 (.pr X1 (.int 1))) X84))))))))
theorem G216:Tr F216:=ii8 fun ρ p0 p1 p2 p3 p4 p5 p6 p7=>by
 have:=@wrap_sub ρ X53 (.int 1)
 have:=@t112_step ρ X0 X10 X53 X1 (.fn 7 (.pr (.fn 7 (.pr X1 (.int 1))) X84)) (.fn 7 (.pr (.fn 7 (.pr X1 (.int 1))) X53))
 have:=@t108_congr ρ X0 X10 X53 X69 X1
 try simp only [smA,smW] at *
 grind
def F217:E:=(.imp (.and X72 (.and X74 X89)) (.cmp .eql (.var 22) (.fn 113 (.pr X0 (.pr X10 (.pr X1 (.fn 7 (.pr (.fn 7 (.pr X1 (.int 1))) X84))))))))
theorem G217:Tr F217:=ii8 fun ρ p0 p1 p2 p3 p4 p5 p6 p7=>by
 have:=@wrap_sub ρ X53 (.int 1)
 have:=@t112_step ρ X0 X10 X53 X1 (.fn 7 (.pr (.fn 7 (.pr X1 (.int 1))) X84)) (.fn 7 (.pr (.fn 7 (.pr X1 (.int 1))) X53))
 have:=@t108_congr ρ X0 X10 X53 X69 X1
 try simp only [smA,smW] at *
 grind
def F218:E:=(.imp X111 (.not (.cmp .lss X104 (.int 0))))
theorem G218:Tr F218:=ii9 fun ρ p0 p1 p2 p3 p4 p5 p6 p7 p8=>by
 have:=fun e=>@t114_at ρ X10 X69 (.fn 0 X10) e
 have:=@prod_le (E.I ρ (.fn 1 (.pr X10 X69))) (E.I ρ X92)
 try simp only [smA,smW] at *
 obtain ⟨a16,ea16,qa16⟩:=cs_i64 ((E.I ρ (.fn 1 (.pr X10 X69))) * (E.I ρ X92))
 try simp only [ea16] at *
 obtain ⟨a17,ea17,qa17⟩:=cs_i64 ((E.I ρ X73) + a16)
 try simp only [ea17] at *
 grind
def F219:E:=(.imp X114 (.not (.cmp .lss X84 (.int (-1)))))
theorem G219:Tr F219:=ii4 fun ρ p0 p1 p2 p3=>by
 try simp only [smA,smW] at *
 obtain ⟨a13,ea13,qa13⟩:=cs_i64 ((E.I ρ X53) - (1))
 try simp only [ea13] at *
 grind
def F220:E:=(.imp X111 (.not (.cmp .lss (.fn 8 (.pr X105 (.int 1000000))) X104)))
theorem G220:Tr F220:=ii9 fun ρ p0 p1 p2 p3 p4 p5 p6 p7 p8=>by
 have:=fun e=>@t114_at ρ X10 X69 (.fn 0 X10) e
 have:=@prod_le (E.I ρ (.fn 1 (.pr X10 X69))) (E.I ρ X92)
 try simp only [smA,smW] at *
 obtain ⟨a16,ea16,qa16⟩:=cs_i64 ((E.I ρ X69) + (1))
 try simp only [ea16] at *
 obtain ⟨a17,ea17,qa17⟩:=cs_i64 ((E.I ρ (.fn 1 (.pr X10 X69))) * (E.I ρ X92))
 try simp only [ea17] at *
 obtain ⟨a18,ea18,qa18⟩:=cs_i64 ((E.I ρ X73) + a17)
 try simp only [ea18] at *
 grind
def F221:E:=(.imp (.and X72 (.and X71 (.and X76 (.and X77 X17)))) (.cmp .lss X84 X1))
theorem G221:Tr F221:=ii5 fun ρ p0 p1 p2 p3 p4=>by
 try simp only [smA,smW] at *
 obtain ⟨a13,ea13,qa13⟩:=cs_i64 ((E.I ρ X53) - (1))
 try simp only [ea13] at *
 grind
def F222:E:=(.imp X116 (.not (.cmp .lss X105 (.int 0))))
theorem G222:Tr F222:=ii3 fun ρ p0 p1 p2=>by
 try simp only [smA,smW] at *
 obtain ⟨a15,ea15,qa15⟩:=cs_i64 ((E.I ρ X69) + (1))
 try simp only [ea15] at *
 grind
def F223:E:=(.imp (.and X72 (.and X71 (.and X100 X17))) (.not (.cmp .lss (.int 20000000) X73)))
theorem G223:Tr F223:=ii4 fun ρ p0 p1 p2 p3=>by
 try simp only [smA,smW] at *
 grind
def F224:E:=(.imp (.and X76 (.and X77 X17)) (.cmp .lss (.fn 6 (.pr X84 (.int 1))) (.fn 6 (.pr X53 (.int 1)))))
theorem G224:Tr F224:=ii3 fun ρ p0 p1 p2=>by
 try simp only [smA,smW] at *
 obtain ⟨a13,ea13,qa13⟩:=cs_i64 ((E.I ρ X53) - (1))
 try simp only [ea13] at *
 grind
def F225:E:=(.imp X118 (.not (.cmp .lss X1 X105)))
theorem G225:Tr F225:=ii4 fun ρ p0 p1 p2 p3=>by
 try simp only [smA,smW] at *
 obtain ⟨a15,ea15,qa15⟩:=cs_i64 ((E.I ρ X69) + (1))
 try simp only [ea15] at *
 grind
def F226:E:=(.imp X77 (.not (.cmp .lss X1 X53)))
theorem G226:Tr F226:=ii1 fun ρ p0=>by
 try simp only [smA,smW] at *
 grind
def F227:E:=(.imp X114 (.not (.cmp .lss (.fn 6 (.pr X84 (.int 1))) (.int 0))))
theorem G227:Tr F227:=ii4 fun ρ p0 p1 p2 p3=>by
 try simp only [smA,smW] at *
 obtain ⟨a13,ea13,qa13⟩:=cs_i64 ((E.I ρ X53) - (1))
 try simp only [ea13] at *
 grind
def F228:E:=(.imp X116 (.cmp .lss (.fn 7 (.pr X1 X105)) (.fn 7 (.pr X1 X69))))
theorem G228:Tr F228:=ii3 fun ρ p0 p1 p2=>by
 try simp only [smA,smW] at *
 obtain ⟨a15,ea15,qa15⟩:=cs_i64 ((E.I ρ X69) + (1))
 try simp only [ea15] at *
 grind
def F229:E:=(.imp X118 (.not (.cmp .lss (.fn 7 (.pr X1 X105)) (.int 0))))
theorem G229:Tr F229:=ii4 fun ρ p0 p1 p2 p3=>by
 try simp only [smA,smW] at *
 obtain ⟨a15,ea15,qa15⟩:=cs_i64 ((E.I ρ X69) + (1))
 try simp only [ea15] at *
 grind
namespace m
def facts:List E:=[F172,F173,F174,F175,F176,F177,F178,F179,F180,F181,F182,F183,F184,F185,F186,F187,F188,F189,F190,F191,F192,F193,F194,F195,F196,F197,F198,F199,F200,F201,F202,F203,F204,F205,F206,F141,F207,F208,F209,F210,F211,F212,F213,F214,F215,F216,F217,F218,F219,F220,F221,F222,F223,F224,F225,F226,F227,F228,F229]
theorem facts_ok:∀ e∈facts,Tr e:=(ac G172 (ac G173 (ac G174 (ac G175 (ac G176 (ac G177 (ac G178 (ac G179 (ac G180 (ac G181 (ac G182 (ac G183 (ac G184 (ac G185 (ac G186 (ac G187 (ac G188 (ac G189 (ac G190 (ac G191 (ac G192 (ac G193 (ac G194 (ac G195 (ac G196 (ac G197 (ac G198 (ac G199 (ac G200 (ac G201 (ac G202 (ac G203 (ac G204 (ac G205 (ac G206 (ac G141 (ac G207 (ac G208 (ac G209 (ac G210 (ac G211 (ac G212 (ac G213 (ac G214 (ac G215 (ac G216 (ac G217 (ac G218 (ac G219 (ac G220 (ac G221 (ac G222 (ac G223 (ac G224 (ac G225 (ac G226 (ac G227 (ac G228 (ac G229 all_nil)))))))))))))))))))))))))))))))))))))))))))))))))))))))))))
end m
theorem reckoned:withTab Try.prog (fun tb=>checkAll outTrue (run Try.prog (tb.plus m.facts anns natl11) 3000 (.call 3 args) .nil (varSt 3 pc0) SX.one))=true:=by kernel_rfl

theorem walk {H:Type} (W:World) (base:Nat) (enc:TypeId × Value→H) (v0:Value) (d0:DataW H) (p0:List MemPlace) (v1:Value) (d1:DataW H) (p1:List MemPlace) (v2:Value) (d2:DataW H) (p2:List MemPlace)
  (o0:Value.okWide Try.prog W .any base 3 v0) (h0:DataW.Trod enc Try.prog W 0 (fun _=>true) true 3 v0 d0 p0)
  (o1:Value.okWide Try.prog W .any base 22 v1) (h1:DataW.Trod enc Try.prog W 0 (fun _=>true) true 22 v1 d1 p1)
  (o2:Value.okWide Try.prog W .any base 23 v2) (h2:DataW.Trod enc Try.prog W 0 (fun _=>true) true 23 v2 d2 p2) :
  Calls Try.prog 3 #[v0,v1,v2] W fun e W'=>e=.returned (.bool true)∧Below W.heap.size W W':=by
 obtain ⟨x0,rfl,_,_,w0⟩:=open_int Try.underlying3 o0 h0
 have r0:=wf_i64 w0
 obtain ⟨x1,rfl,k1,w1⟩:=open_slc (n:=9) (ks:=[.int .i64,.int .i64,.int .i64]) Try.underlying22 (by kernel_rfl) o1 h1
 obtain ⟨x2,rfl,k2,w2⟩:=open_slc (n:=9) (ks:=[.int .i64]) Try.underlying23 (by kernel_rfl) o2 h2
 have q1:=typ_slc w1
 have q2:=typ_slc w2
 refine true_of_check2 good (facts:=m.facts) m.facts_ok (anns:=anns) (plainAnns_ok _ (by kernel_rfl)) natl11_ok (vs:=[.int x0,x1,x2]) (pc:=pc0) reckoned ?_ W ⟨trivial,⟨k1,⟨k2,trivial⟩⟩⟩
 unfold pc0
 try simp only [u64R,i64R,List.cons_append,List.nil_append]
 repeat' (refine pc_cons ?_ ?_)
 all_goals first
  | exact pc_nil
  | (first | exact q1 | exact q2 | skip; done)
  | (simp only [eLe,eLt,eV,Env.of,sm_I_int,sm_I_var,sm_B_lss,sm_B_not,getD_cons_zero,getD_cons_succ,toI_int]; omega)

set_option maxRecDepth 100000 in
theorem lifted (os : Os) (started : os.Started) (H : Type) (enc : TypeId × Value → H) :
    ReturnsInHanded {} Try.checked os 3 .any (Rows.metaBestsSpec.pre6 enc Try.prog Try.f3 Rows.metaBestsRow.domain false) (Rows.metaBestsSpec.post enc Try.prog Try.f3 false true false false) := by
  refine returnsInHanded_of_change (C := Try.checked) own started (by kernel_rfl) Try.func3
    (ChangeSpec.witness6 (enc := enc) (C := Try.checked) false ⟨#[], #[.int .i64 0, .slice none 0 0, .slice none 0 0], []⟩ 8 (by kernel_rfl) (by kernel_rfl) (by kernel_rfl) (by kernel_rfl)) ?_
  intro W base args ds gs before hval0 hW hcnd _
  have hval : ∀ (j : Nat) t v, Try.f3.params[j]? = some t → args[j]? = some v → Value.okWide Try.prog W .any base t v := hval0
  have hW' := hW
  obtain ⟨p, q, hA0, hV, rfl, hfz, hnd⟩ := hW
  have hA : DataW.TrodAll enc Try.prog W 0 (fun _ => true) true Try.f3.params.toList args.toList ds p := hA0
  rw [Try.params3] at hA hval
  obtain ⟨v0, vs0, d0, ds0, p0, q0, hargs, rfl, rfl, h0, r0⟩ := trodAll_cons hA
  obtain ⟨v1, vs1, d1, ds1, p1, q1, rfl, rfl, rfl, h1, r1⟩ := trodAll_cons r0
  obtain ⟨v2, vs2, d2, ds2, p2, q2, rfl, rfl, rfl, h2, r2⟩ := trodAll_cons r1
  obtain ⟨rfl, rfl, rfl⟩ := trodAll_nil r2
  obtain rfl : args = #[v0, v1, v2] := by cases args; simp_all
  obtain ⟨rfl, rfl⟩ := trodVars_none hV
  have lt0 : ∀ x ∈ p0, x.block < W.heap.size := by obtain ⟨m, hm⟩ := h0; exact DataW.trod_lt m _ _ _ hm
  have lt1 : ∀ x ∈ p1, x.block < W.heap.size := by obtain ⟨m, hm⟩ := h1; exact DataW.trod_lt m _ _ _ hm
  have lt2 : ∀ x ∈ p2, x.block < W.heap.size := by obtain ⟨m, hm⟩ := h2; exact DataW.trod_lt m _ _ _ hm
  have o0 := hval 0 3 v0 rfl rfl
  have o1 := hval 1 22 v1 rfl rfl
  have o2 := hval 2 23 v2 rfl rfl
  clear hA0 hval0
  refine (walk W base enc v0 d0 p0 v1 d1 p1 v2 d2 p2 o0 h0 o1 h1 o2 h2).mono fun e W' ⟨he, bel⟩ => ?_
  subst he
  exact ⟨_, rfl, _, _, _, [], _, [], hW', trodAll_mk1 (shut_bool Try.underlying4 _), (trodAll_cons_mk (Below.trod laidOut (by kernel_rfl) (of_decide_eq_true (by kernel_rfl)) h0 bel lt0) (trodAll_cons_mk (Below.trod laidOut (by kernel_rfl) (of_decide_eq_true (by kernel_rfl)) h1 bel lt1) (trodAll_cons_mk (Below.trod laidOut (by kernel_rfl) (of_decide_eq_true (by kernel_rfl)) h2 bel lt2) trodAll_mk0))), rfl, bel.frame _, fun h => by cases h⟩

theorem over:Rows.metaBestsRow.holds Try.pinned (OpenSpec.ofChange Rows.metaBestsSpec) :=
 OpenClaim.holds_of_wide 3 Try.f3 rfl rfl rfl rfl rfl rfl rfl ⟨rfl,rfl,rfl,rfl,rfl⟩ rfl rfl rfl rfl rfl (by kernel_rfl) Try.func3 (by kernel_rfl)
  (of_decide_eq_true (by kernel_rfl)) (by unfold Func.isWrapper; first | (rw [if_pos (by decide +kernel)]; kernel_rfl) | (rw [if_neg (by decide +kernel)]; exact ⟨rfl,rfl⟩))
  (fun os started H enc _=>lifted os started H enc)

theorem proved:Rows.MetaBestsSaid:=over

end
end Go.Proofs.Ytmngplmblanhdaa.metaBests
