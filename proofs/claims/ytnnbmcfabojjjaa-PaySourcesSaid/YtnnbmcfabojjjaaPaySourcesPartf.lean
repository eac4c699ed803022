/-
  PaySources: contracts of functions, part 6.
-/
import Derived.Test.YtnnbmcfabojjjaaRows
import Derived.Test.YtnnbmcfabojjjaaTheory
import Derived.WalkKit
import Derived.ProofKit
import Derived.OpenShut
import Derived.ChangeOld
import Derived.Below
import Derived.KernelRfl
import Derived.Lib.SmallJoins
import Derived.Test.YtnnbmcfabojjjaaPaySourcesParte
namespace Go.Proofs.Ytnnbmcfabojjjaa.paySources
open Go.ChangeShapes Go.WideShapes Go.ChangeAt Go.RowKit
open Go.SX
set_option linter.unusedVariables false
set_option linter.unusedSimpArgs false
set_option maxRecDepth 100000
noncomputable section
abbrev K0:E:=.var 11
abbrev K1:E:=.var 12
abbrev K2:E:=.pr K0 K1
abbrev K3:E:=.fn 156 K2
abbrev K4:E:=.var 41
abbrev K5:E:=.var 42
abbrev K6:E:=.fn 157 (.pr K4 K5)
abbrev K7:E:=.var 44
abbrev K8:E:=.cmp .lss K7 K5
abbrev K9:E:=.cmp .lss K7 (.int 0)
abbrev K10:E:=.not K9
abbrev K11:E:=.cmp .eql (.var 14) (.fn 9 (.pr K1 (.int 2)))
abbrev K12:E:=.var 17
abbrev K13:E:=.cmp .eql K12 (.fn 9 (.pr K1 (.int 2)))
abbrev K14:E:=.cmp .lss (.int 3) K5
abbrev K15:E:=.not K14
abbrev K16:E:=.and K15 K10
abbrev K17:E:=.and K8 K16
abbrev K18:E:=.ar .add .i64 K7 (.int 1)
abbrev K19:E:=.and (.not (.cmp .lss K5 K7)) K10
abbrev K20:E:=.and K15 K19
abbrev K21:E:=.and K8 K20
abbrev K22:E:=.and K6 K10
abbrev K23:E:=.var 2
abbrev K24:E:=.cmp .lss K23 (.int 0)
abbrev K25:E:=.var 0
abbrev K26:E:=.cmp .eql (.fn 141 (.pr K25 K23)) (.int 0)
abbrev K27:E:=.not K24
abbrev K28:E:=.cmp .lss K23 (.fn 9 (.pr K25 (.int 14)))
abbrev K29:E:=.cmp .eql (.fn 142 (.pr K25 K23)) (.int 0)
abbrev K30:E:=.var 1
abbrev K31:E:=.fn 117 K30
abbrev K32:E:=.pr K30 (.pr K23 (.int 0))
abbrev K33:E:=.pr K25 K32
abbrev K34:E:=.var 19
abbrev K35:E:=.cmp .lss K34 (.fn 9 (.pr (.fn 1 (.pr K30 (.int 0))) (.int 12)))
abbrev K36:E:=.not (.cmp .lss K34 (.int 0))
abbrev K37:E:=.and K35 K36
abbrev K38:E:=.and K31 K37
abbrev K39:E:=.ar .add .i64 K34 (.int 1)
abbrev K40:E:=.pr K23 K34
abbrev K41:E:=.pr K30 K40
abbrev K42:E:=.pr K25 K41
abbrev K43:E:=.pr (.fn 10 (.int 0)) K42
abbrev K44:E:=.fn 143 K43
abbrev K45:E:=.cmp .lss (.fn 9 (.pr (.fn 1 (.pr K30 (.int 0))) (.int 12))) K34
abbrev K46:E:=.not K45
abbrev K47:E:=.pr K25 (.pr K30 (.pr K23 (.fn 9 (.pr (.fn 1 (.pr K30 (.int 0))) (.int 12)))))
abbrev K48:E:=.cmp .lss K34 K12
abbrev K49:E:=.not K48
abbrev K50:E:=.var 16
abbrev K51:E:=.cmp .eql (.fn 0 K50) (.fn 8 (.pr K12 (.int 2)))
abbrev K52:E:=.var 18
abbrev K53:E:=.pr K50 K42
abbrev K54:E:=.fn 143 K53
abbrev K55:E:=.fn 143 (.pr K50 K47)
abbrev K56:E:=.var 27
abbrev K57:E:=.cmp .eql K56 (.fn 142 (.pr K25 (.fn 1 (.pr (.fn 1 (.pr K30 (.int 0))) (.fn 6 (.pr (.fn 8 (.pr K34 (.int 12))) (.int 1)))))))
abbrev K58:E:=.var 21
abbrev K59:E:=.cmp .eql K58 (.fn 141 (.pr K25 (.fn 1 (.pr (.fn 1 (.pr K30 (.int 0))) (.fn 6 (.pr (.fn 8 (.pr K34 (.int 12))) (.int 1)))))))
abbrev K60:E:=.cmp .eql (.fn 1 (.pr (.fn 1 (.pr K30 (.int 0))) (.fn 6 (.pr (.fn 8 (.pr K34 (.int 12))) (.int 2))))) K23
abbrev K61:E:=.not (.fn 1 (.pr (.fn 1 (.pr K30 (.int 0))) (.fn 6 (.pr (.fn 8 (.pr K34 (.int 12))) (.int 9)))))
abbrev K62:E:=.cmp .eql K58 (.int 1)
abbrev K63:E:=.cmp .lss K56 (.int 4)
abbrev K64:E:=.cmp .lss (.int 1) K23
abbrev K65:E:=.not K64
abbrev K66:E:=.and K44 (.and K36 (.and K65 (.and K27 K31)))
abbrev K67:E:=.pr K23 K39
abbrev K68:E:=.pr K30 K67
abbrev K69:E:=.pr K25 K68
abbrev K70:E:=.fn 143 (.pr (.fn 10 (.int 0)) K69)
abbrev K71:E:=.cmp .lss K56 (.int 0)
abbrev K72:E:=.and K36 K49
abbrev K73:E:=.and K35 K72
abbrev K74:E:=.and K31 K73
abbrev K75:E:=.cmp .eql K23 (.int 0)
abbrev K76:E:=.not K75
abbrev K77:E:=.cmp .lss (.var 34) (.int 0)
abbrev K78:E:=.not K77
abbrev K79:E:=.iff K78 (.fn 114 (.pr (.fn 1 (.pr K30 (.int 22))) (.fn 1 (.pr (.fn 1 (.pr K30 (.int 0))) (.fn 6 (.pr (.fn 8 (.pr K34 (.int 12))) (.int 0)))))))
abbrev K80:E:=.iff K78 (.fn 114 (.pr (.fn 1 (.pr K30 (.int 8))) (.fn 1 (.pr (.fn 1 (.pr K30 (.int 0))) (.fn 6 (.pr (.fn 8 (.pr K34 (.int 12))) (.int 0)))))))
abbrev K81:E:=.and K44 (.and K36 K31)
abbrev K82:E:=.cmp .lss K12 (.int 1)
abbrev K83:E:=.not K82
abbrev K84:E:=.and K49 K83
abbrev K85:E:=.and K54 K84
abbrev K86:E:=.and K31 K85
abbrev K87:E:=.and K36 (.and K65 (.and K27 K86))
abbrev K88:E:=.fn 143 (.pr K50 K69)
abbrev K89:E:=.and K36 K86
abbrev K90:E:=.pr (.fn 23 (.pr (.fn 1 (.pr (.fn 1 (.pr K30 (.int 0))) (.fn 6 (.pr (.fn 8 (.pr K34 (.int 12))) (.int 0))))) (.fn 23 (.pr K56 (.fn 10 (.int 0)))))) K69
abbrev K91:E:=.fn 143 K90
abbrev K92:E:=.pr (.fn 3 (.pr K50 (.fn 23 (.pr (.fn 1 (.pr (.fn 1 (.pr K30 (.int 0))) (.fn 6 (.pr (.fn 8 (.pr K34 (.int 12))) (.int 0))))) (.fn 23 (.pr K56 (.fn 10 (.int 0)))))))) K69
abbrev K93:E:=.fn 143 K92
abbrev K94:E:=.pr K25 K30
abbrev K95:E:=.fn 145 K94
abbrev K96:E:=.var 3
abbrev K97:E:=.var 4
abbrev K98:E:=.var 5
abbrev K99:E:=.var 6
abbrev K100:E:=.pr K23 (.pr K96 (.pr K97 (.pr K98 K99)))
abbrev K101:E:=.fn 146 K100
abbrev K102:E:=.and K95 K101
abbrev K103:E:=.iff (.bool false) K102
abbrev K104:E:=.not (.cmp .lss (.int 20) K23)
abbrev K105:E:=.not (.cmp .lss K96 (.int 0))
abbrev K106:E:=.not (.cmp .lss (.int 20) K96)
abbrev K107:E:=.not (.cmp .lss K97 (.int 0))
abbrev K108:E:=.cmp .lss (.int 20) K97
abbrev K109:E:=.not K108
abbrev K110:E:=.cmp .lss K98 (.int 0)
abbrev K111:E:=.not K110
abbrev K112:E:=.cmp .lss (.int 20) K98
abbrev K113:E:=.not K112
abbrev K114:E:=.cmp .lss K30 (.int 0)
abbrev K115:E:=.cmp .lss K99 (.int 0)
abbrev K116:E:=.fn 145 (.pr K30 K23)
abbrev K117:E:=.iff K96 K116
abbrev K118:E:=.pr K25 (.pr K30 K23)
abbrev K119:E:=.pr (.fn 10 (.int 0)) K118
abbrev K120:E:=.fn 144 K119
abbrev K121:E:=.imp K116 K120
abbrev K122:E:=.and K117 K96
abbrev K123:E:=.cmp .eql (.fn 0 K97) (.fn 8 (.pr K98 (.int 2)))
abbrev K124:E:=.var 20
abbrev K125:E:=.cmp .lss K124 K58
abbrev K126:E:=.cmp .eql K124 (.int 0)
abbrev K127:E:=.cmp .eql K58 (.fn 9 (.pr K50 (.int 2)))
abbrev K128:E:=.cmp .lss K124 (.fn 9 (.pr K50 (.int 2)))
abbrev K129:E:=.cmp .eql K52 K124
abbrev K130:E:=.and K127 K129
abbrev K131:E:=.not (.cmp .lss (.fn 9 (.pr (.fn 1 (.pr K30 (.int 0))) (.int 12))) (.fn 9 (.pr K50 (.int 2))))
abbrev K132:E:=.and K131 K130
abbrev K133:E:=.ar .add .i64 K124 (.int 1)
abbrev K134:E:=.cmp .lss K52 (.int 1)
abbrev K135:E:=.not K134
abbrev K136:E:=.and K135 K129
abbrev K137:E:=.and K127 K136
abbrev K138:E:=.and K131 K137
abbrev K139:E:=.and K125 K138
abbrev K140:E:=.and K31 K139
abbrev K141:E:=.and K125 K136
abbrev K142:E:=.cmp .lss (.fn 7 (.pr K58 K133)) (.fn 7 (.pr K58 K124))
abbrev K143:E:=.cmp .lss (.fn 7 (.pr K58 K133)) (.int 0)
abbrev K144:E:=.not K143
abbrev K145:E:=.and K117 (.and K96 K76)
abbrev K146:E:=.var 22
abbrev K147:E:=.cmp .lss K58 K146
abbrev K148:E:=.cmp .lss K146 K58
abbrev K149:E:=.not K148
abbrev K150:E:=.cmp .eql K146 (.fn 9 (.pr K50 (.int 2)))
abbrev K151:E:=.pr K124 (.pr K25 (.pr K30 (.pr K23 K58)))
abbrev K152:E:=.pr K34 K151
abbrev K153:E:=.pr K52 K152
abbrev K154:E:=.pr K12 K153
abbrev K155:E:=.fn 147 K154
abbrev K156:E:=.and K131 (.and K150 (.and K55 K31))
abbrev K157:E:=.cmp .eql (.fn 1 (.pr K50 (.fn 6 (.pr (.fn 8 (.pr K58 (.int 2))) (.int 1))))) (.int 0)
abbrev K158:E:=.cmp .eql (.fn 1 (.pr K50 (.fn 6 (.pr (.fn 8 (.pr K58 (.int 2))) (.int 1))))) (.int 1)
abbrev K159:E:=.cmp .eql (.fn 1 (.pr K50 (.fn 6 (.pr (.fn 8 (.pr K58 (.int 2))) (.int 1))))) (.int 2)
abbrev K160:E:=.cmp .lss K58 (.int 0)
abbrev K161:E:=.not K160
abbrev K162:E:=.and K131 K150
abbrev K163:E:=.and K161 K162
abbrev K164:E:=.and K147 K163
abbrev K165:E:=.and K31 K164
abbrev K166:E:=.ar .add .i64 K58 (.int 1)
abbrev K167:E:=.and K149 K163
abbrev K168:E:=.and K147 K167
abbrev K169:E:=.and K31 K168
abbrev K170:E:=.and K155 (.and K161 K156)
abbrev K171:E:=.pr K30 (.pr K23 K166)
abbrev K172:E:=.pr K25 K171
abbrev K173:E:=.pr K124 K172
abbrev K174:E:=.mn (.int 99) (.ar .add .i64 K52 (.int 1))
abbrev K175:E:=.pr K34 K173
abbrev K176:E:=.mn (.int 99) (.ar .add .i64 K12 (.int 1))
namespace p29
def facts:List E:=[]
theorem facts_ok:∀ e∈facts,∀ ρ:Env,E.B ρ e=true:=all_nil
end p29
theorem spec29_0:NatOk Try.prog (specNat (spCE)) :=
 spec_of_check good (facts:=p29.facts) p29.facts_ok (anns:=[]) (plainAnns_ok _ (by kernel_rfl)) (nats:=natl30) natl30_ok (n:=3000) (by kernel_rfl)
def natl31:List Nat1:=frzNat ([kE]) (specNat (spCE))::natl30
theorem natl31_ok:∀ x∈natl31,NatOk Try.prog x:=by
 intro x hx
 rcases List.mem_cons.1 hx with rfl | hx
 ·exact frzNat_ok spec29_0
 exact natl30_ok x hx

namespace p30
def facts:List E:=[]
theorem facts_ok:∀ e∈facts,∀ ρ:Env,E.B ρ e=true:=all_nil
end p30
theorem spec30_0:NatOk Try.prog (specNat (spCT)) :=
 spec_of_check good (facts:=p30.facts) p30.facts_ok (anns:=[]) (plainAnns_ok _ (by kernel_rfl)) (nats:=natl31) natl31_ok (n:=3000) (by kernel_rfl)
def natl32:List Nat1:=specNat (spCT)::natl31
theorem natl32_ok:∀ x∈natl32,NatOk Try.prog x:=by
 intro x hx
 rcases List.mem_cons.1 hx with rfl | hx
 ·exact spec30_0
 exact natl31_ok x hx

def F440:E:=(.imp K3 (.not (.cmp .lss (.int 100) (.fn 9 (.pr K0 (.int 5))))))
theorem G440:Tr F440:=ii1 fun ρ p0=>by
 have:=@z156 ρ K0 K1
 try simp only [smA,smW] at *
 grind
def F441:E:=(.imp K3 (.not (.cmp .lss (.int 100) (.fn 9 (.pr K1 (.int 2))))))
theorem G441:Tr F441:=ii1 fun ρ p0=>by
 have:=@z156 ρ K0 K1
 try simp only [smA,smW] at *
 grind
def F442:E:=(.imp (.and K6 (.and K8 K10)) (.not (.cmp .lss (.int 100) (.fn 9 (.pr (.fn 1 (.pr K4 (.fn 6 (.pr (.fn 8 (.pr K7 (.int 2))) (.int 1))))) (.int 5))))))
theorem G442:Tr F442:=ii3 fun ρ p0 p1 p2=>by
 have:=@t157_get ρ K7 K5 K4
 try simp only [smA,smW] at *
 grind
def F443:E:=(.imp K11 (.not (.cmp .lss (.var 14) (.int 0))))
theorem G443:Tr F443:=ii1 fun ρ p0=>by
 have:=nn9 ρ (.pr K1 (.int 2))
 try simp only [smA,smW] at *
 grind
def F444:E:=(.imp K13 (.not (.cmp .lss K12 (.int 0))))
theorem G444:Tr F444:=ii1 fun ρ p0=>by
 have:=nn9 ρ (.pr K1 (.int 2))
 try simp only [smA,smW] at *
 grind
def F445:E:=(.imp K17 (.not (.cmp .lss K18 (.int 0))))
theorem G445:Tr F445:=ii3 fun ρ p0 p1 p2=>by
 try simp only [smA,smW] at *
 obtain ⟨a4,ea4,qa4⟩:=cs_i64 ((E.I ρ K7) + (1))
 try simp only [ea4] at *
 grind
def F446:E:=(.imp (.and K3 K11) (.not (.cmp .lss (.int 3) (.var 14))))
theorem G446:Tr F446:=ii2 fun ρ p0 p1=>by
 have:=@z156 ρ K0 K1
 try simp only [smA,smW] at *
 grind
def F447:E:=(.imp (.and K3 K13) (.not (.cmp .lss (.int 3) K12)))
theorem G447:Tr F447:=ii2 fun ρ p0 p1=>by
 have:=@z156 ρ K0 K1
 try simp only [smA,smW] at *
 grind
def F448:E:=(.imp K21 (.not (.cmp .lss K5 K18)))
theorem G448:Tr F448:=ii4 fun ρ p0 p1 p2 p3=>by
 try simp only [smA,smW] at *
 obtain ⟨a4,ea4,qa4⟩:=cs_i64 ((E.I ρ K7) + (1))
 try simp only [ea4] at *
 grind
def F449:E:=(.imp (.and K3 K11) (.fn 157 (.pr K1 (.var 14))))
theorem G449:Tr F449:=ii2 fun ρ p0 p1=>by
 have:=@z156 ρ K0 K1
 have:=@t157_eq ρ (.fn 9 (.pr K1 (.int 2))) (.var 14) K1
 try simp only [smA,smW] at *
 grind
def F450:E:=(.imp (.and K3 K13) (.fn 157 (.pr K1 K12)))
theorem G450:Tr F450:=ii2 fun ρ p0 p1=>by
 have:=@z156 ρ K0 K1
 have:=@t157_eq ρ (.fn 9 (.pr K1 (.int 2))) K12 K1
 try simp only [smA,smW] at *
 grind
def F451:E:=(.imp (.and K8 (.and (.cmp .eql (.fn 9 (.pr (.fn 1 (.pr K4 (.fn 6 (.pr (.fn 8 (.pr K7 (.int 2))) (.int 1))))) (.int 5))) (.int 0)) K22)) (.fn 157 (.pr (.fn 2 (.pr K4 (.pr (.fn 6 (.pr (.fn 8 (.pr K7 (.int 2))) (.int 1))) (.fn 30 (.int 0))))) K5)))
theorem G451:Tr F451:=ii4 fun ρ p0 p1 p2 p3=>by
 have:=@t157_get ρ K7 K5 K4
 have:=@t157_set ρ K7 K5 (.fn 30 (.int 0)) K4
 have:=@rows_30 ρ (.int 0) 5
 try simp only [smA,smW] at *
 grind
def F452:E:=(.imp (.and K8 K22) (.fn 157 (.pr (.fn 2 (.pr K4 (.pr (.fn 6 (.pr (.fn 8 (.pr K7 (.int 2))) (.int 1))) (.fn 28 (.pr (.pr (.var 47) (.var 45)) (.fn 1 (.pr K4 (.fn 6 (.pr (.fn 8 (.pr K7 (.int 2))) (.int 1)))))))))) K5)))
theorem G452:Tr F452:=ii3 fun ρ p0 p1 p2=>by
 have:=@t157_get ρ K7 K5 K4
 have:=@t157_set ρ K7 K5 (.fn 28 (.pr (.pr (.var 47) (.var 45)) (.fn 1 (.pr K4 (.fn 6 (.pr (.fn 8 (.pr K7 (.int 2))) (.int 1))))))) K4
 have:=@rows_28 ρ (.fn 1 (.pr K4 (.fn 6 (.pr (.fn 8 (.pr K7 (.int 2))) (.int 1))))) (.pr (.var 47) (.var 45))
 try simp only [smA,smW] at *
 grind
def F453:E:=(.imp K17 (.cmp .lss (.fn 7 (.pr K5 K18)) (.fn 7 (.pr K5 K7))))
theorem G453:Tr F453:=ii3 fun ρ p0 p1 p2=>by
 try simp only [smA,smW] at *
 obtain ⟨a4,ea4,qa4⟩:=cs_i64 ((E.I ρ K7) + (1))
 try simp only [ea4] at *
 grind
def F454:E:=(.imp K21 (.not (.cmp .lss (.fn 7 (.pr K5 K18)) (.int 0))))
theorem G454:Tr F454:=ii4 fun ρ p0 p1 p2 p3=>by
 try simp only [smA,smW] at *
 obtain ⟨a4,ea4,qa4⟩:=cs_i64 ((E.I ρ K7) + (1))
 try simp only [ea4] at *
 grind
namespace p31
def facts:List E:=[F440,F441,F442,F443,F444,F445,F446,F447,F448,F449,F450,F451,F452,F453,F454]
theorem facts_ok:∀ e∈facts,Tr e:=(ac G440 (ac G441 (ac G442 (ac G443 (ac G444 (ac G445 (ac G446 (ac G447 (ac G448 (ac G449 (ac G450 (ac G451 (ac G452 (ac G453 (ac G454 all_nil)))))))))))))))
end p31
theorem spec31_0:NatOk Try.prog (specNat (spCC)) :=
 spec_of_check good (facts:=p31.facts) p31.facts_ok (anns:=annCC) (plainAnns_ok _ (by kernel_rfl)) (nats:=natl32) natl32_ok (n:=3000) (by kernel_rfl)
def natl33:List Nat1:=frzNat (List.replicate 12 []++[kTr]) (specNat (spCC))::natl32
theorem natl33_ok:∀ x∈natl33,NatOk Try.prog x:=by
 intro x hx
 rcases List.mem_cons.1 hx with rfl | hx
 ·exact frzNat_ok spec31_0
 exact natl32_ok x hx

def F455:E:=(.imp K24 K26)
theorem G455:Tr F455:=ii1 fun ρ p0=>by
 have:=nn9 ρ (.pr K25 (.int 14))
 have:=@card_out ρ K23 K25
 try simp only [smA,smW] at *
 grind
def F456:E:=(.imp (.and (.fn 155 (.pr K25 (.fn 9 (.pr K25 (.int 14))))) (.and K27 K28)) (.fn 156 (.pr (.fn 1 (.pr K25 (.fn 6 (.pr (.fn 8 (.pr K23 (.int 14))) (.int 11))))) (.fn 1 (.pr K25 (.fn 6 (.pr (.fn 8 (.pr K23 (.int 14))) (.int 12))))))))
theorem G456:Tr F456:=ii3 fun ρ p0 p1 p2=>by
 have:=@t155_get ρ K23 (.fn 9 (.pr K25 (.int 14))) K25
 try simp only [smA,smW] at *
 grind
def F457:E:=(.imp (.and K27 (.not K28)) K26)
theorem G457:Tr F457:=ii2 fun ρ p0 p1=>by
 have:=@card_out ρ K23 K25
 try simp only [smA,smW] at *
 grind
def F458:E:=(.imp K24 K29)
theorem G458:Tr F458:=ii1 fun ρ p0=>by
 have:=nn9 ρ (.pr K25 (.int 14))
 have:=@card_out ρ K23 K25
 try simp only [smA,smW] at *
 grind
def F459:E:=(.imp (.and K27 K28) (.cmp .eql (.fn 1 (.pr K25 (.fn 6 (.pr (.fn 8 (.pr K23 (.int 14))) (.int 1))))) (.fn 141 (.pr K25 K23))))
theorem G459:Tr F459:=ii2 fun ρ p0 p1=>by
 have:=@card_in ρ K23 K25
 try simp only [smA,smW] at *
 grind
def F460:E:=(.imp (.and K27 (.not K28)) K29)
theorem G460:Tr F460:=ii2 fun ρ p0 p1=>by
 have:=@card_out ρ K23 K25
 try simp only [smA,smW] at *
 grind
def F461:E:=(.imp (.and K27 K28) (.cmp .eql (.fn 1 (.pr K25 (.fn 6 (.pr (.fn 8 (.pr K23 (.int 14))) (.int 7))))) (.fn 142 (.pr K25 K23))))
theorem G461:Tr F461:=ii2 fun ρ p0 p1=>by
 have:=@card_in ρ K23 K25
 try simp only [smA,smW] at *
 grind
namespace p32
def facts:List E:=[F455,F456,F457,F458,F459,F460,F461]
theorem facts_ok:∀ e∈facts,Tr e:=(ac G455 (ac G456 (ac G457 (ac G458 (ac G459 (ac G460 (ac G461 all_nil)))))))
end p32
theorem spec32_0:NatOk Try.prog (specNat (spOC)) :=
 spec_of_check good (facts:=p32.facts) p32.facts_ok (anns:=[]) (plainAnns_ok _ (by kernel_rfl)) (nats:=natl33) natl33_ok (n:=3000) (by kernel_rfl)
def natl34:List Nat1:=frzNat (List.replicate 11 []++[kE,kTr]) (specNat (spOC))::natl33
theorem natl34_ok:∀ x∈natl34,NatOk Try.prog x:=by
 intro x hx
 rcases List.mem_cons.1 hx with rfl | hx
 ·exact frzNat_ok spec32_0
 exact natl33_ok x hx

def F462:E:=(.imp K31 (.not (.cmp .lss (.int 30) (.fn 9 (.pr (.fn 1 (.pr K30 (.int 0))) (.int 12))))))
theorem G462:Tr F462:=ii1 fun ρ p0=>by
 have:=t117 p0
 try simp only [smA,smW] at *
 omega
def F463:E:=(.fn 143 (.pr (.fn 10 (.int 0)) K33))
theorem G463:Tr F463:=fun ρ=>by
 unfold F463
 have:=@t143_zero ρ (.int 0) K23 (.int 0) K30 K25
 try simp only [smA,smW] at *
 grind
def F464:E:=(.imp K31 (.not (.cmp .lss (.int 1000) (.fn 0 (.fn 1 (.pr K30 (.int 8)))))))
theorem G464:Tr F464:=ii1 fun ρ p0=>by
 have:=t117 p0
 try simp only [smA,smW] at *
 have:=@fn0_nn ρ (.fn 1 (.pr K30 (.int 8)))
 omega
def F465:E:=(.imp K31 (.not (.cmp .lss (.int 1000) (.fn 0 (.fn 1 (.pr K30 (.int 22)))))))
theorem G465:Tr F465:=ii1 fun ρ p0=>by
 have:=t117 p0
 try simp only [smA,smW] at *
 have:=@fn0_nn ρ (.fn 1 (.pr K30 (.int 22)))
 omega
def F466:E:=(.imp K38 (.not (.cmp .lss K39 (.int 0))))
theorem G466:Tr F466:=ii3 fun ρ p0 p1 p2=>by
 have:=t117 p0
 try simp only [smA,smW] at *
 obtain ⟨a6,ea6,qa6⟩:=cs_i64 ((E.I ρ K34) + (1))
 try simp only [ea6] at *
 omega
def F467:E:=(.imp (.and (.not K35) (.and K44 K46)) (.fn 143 (.pr (.fn 10 (.int 0)) K47)))
theorem G467:Tr F467:=ii3 fun ρ p0 p1 p2=>by
 have:=@t143_eq ρ (.fn 10 (.int 0)) K34 K23 (.fn 9 (.pr (.fn 1 (.pr K30 (.int 0))) (.int 12))) K30 K25
 try simp only [smA,smW] at *
 grind
def F468:E:=(.imp (.and (.not K35) (.and K46 K49)) (.not (.cmp .lss (.fn 9 (.pr (.fn 1 (.pr K30 (.int 0))) (.int 12))) K12)))
theorem G468:Tr F468:=ii3 fun ρ p0 p1 p2=>by
 try simp only [smA,smW] at *
 omega
def F469:E:=(.imp K37 (.not (.cmp .lss (.fn 9 (.pr (.fn 1 (.pr K30 (.int 0))) (.int 12))) K39)))
theorem G469:Tr F469:=ii2 fun ρ p0 p1=>by
 try simp only [smA,smW] at *
 obtain ⟨a6,ea6,qa6⟩:=cs_i64 ((E.I ρ K34) + (1))
 try simp only [ea6] at *
 omega
def F470:E:=(.imp (.and K51 (.not (.cmp .lss K52 K12))) (.not (.cmp .lss K52 (.int 0))))
theorem G470:Tr F470:=ii2 fun ρ p0 p1=>by
 try simp only [smA,smW] at *
 have:=@fn0_nn ρ K50
 omega
def F471:E:=(.imp (.and (.not K35) (.and K46 K54)) K55)
theorem G471:Tr F471:=ii3 fun ρ p0 p1 p2=>by
 have:=@t143_eq ρ K50 K34 K23 (.fn 9 (.pr (.fn 1 (.pr K30 (.int 0))) (.int 12))) K30 K25
 try simp only [smA,smW] at *
 grind
def F472:E:=(.imp (.and K35 (.and K57 (.and K59 (.and K60 (.and K61 (.and K62 (.and (.not K63) K66))))))) K70)
theorem G472:Tr F472:=ii12 fun ρ p0 p1 p2 p3 p4 p5 p6 p7 p8 p9 p10 p11=>by
 have:=t117 p11
 have:=@wrap_add ρ K34 (.int 1)
 have:=fun hp hv h0 hn=>@t143_step ρ (.fn 10 (.int 0)) K34 K23 K39 K30 (.fn 1 (.pr K30 (.int 8))) K25 p7 (.fn 1 (.pr (.fn 1 (.pr K30 (.int 0))) (.fn 6 (.pr (.fn 8 (.pr K34 (.int 12))) (.int 0))))) (.fn 1 (.pr (.fn 1 (.pr K30 (.int 0))) (.fn 6 (.pr (.fn 8 (.pr K34 (.int 12))) (.int 1))))) (.fn 1 (.pr (.fn 1 (.pr K30 (.int 0))) (.fn 6 (.pr (.fn 8 (.pr K34 (.int 12))) (.int 2))))) (.fn 1 (.pr (.fn 1 (.pr K30 (.int 0))) (.fn 6 (.pr (.fn 8 (.pr K34 (.int 12))) (.int 9))))) K56 rfl rfl rfl rfl (field_0 hp) h0 hn hv
 have:=fun hp hv h0 hn=>@t143_step ρ (.fn 10 (.int 0)) K34 K23 K39 K30 (.fn 1 (.pr K30 (.int 22))) K25 p7 (.fn 1 (.pr (.fn 1 (.pr K30 (.int 0))) (.fn 6 (.pr (.fn 8 (.pr K34 (.int 12))) (.int 0))))) (.fn 1 (.pr (.fn 1 (.pr K30 (.int 0))) (.fn 6 (.pr (.fn 8 (.pr K34 (.int 12))) (.int 1))))) (.fn 1 (.pr (.fn 1 (.pr K30 (.int 0))) (.fn 6 (.pr (.fn 8 (.pr K34 (.int 12))) (.int 2))))) (.fn 1 (.pr (.fn 1 (.pr K30 (.int 0))) (.fn 6 (.pr (.fn 8 (.pr K34 (.int 12))) (.int 9))))) K56 rfl rfl rfl rfl (field_1 hp) h0 hn hv
 try simp only [smA,smW] at *
 grind
def F473:E:=(.imp (.and K35 (.and K57 (.and K59 (.and K60 (.and K61 (.and K62 (.and K71 K66))))))) K70)
theorem G473:Tr F473:=ii12 fun ρ p0 p1 p2 p3 p4 p5 p6 p7 p8 p9 p10 p11=>by
 have:=t117 p11
 have:=@wrap_add ρ K34 (.int 1)
 have:=fun hp hv h0 hn=>@t143_step ρ (.fn 10 (.int 0)) K34 K23 K39 K30 (.fn 1 (.pr K30 (.int 8))) K25 p7 (.fn 1 (.pr (.fn 1 (.pr K30 (.int 0))) (.fn 6 (.pr (.fn 8 (.pr K34 (.int 12))) (.int 0))))) (.fn 1 (.pr (.fn 1 (.pr K30 (.int 0))) (.fn 6 (.pr (.fn 8 (.pr K34 (.int 12))) (.int 1))))) (.fn 1 (.pr (.fn 1 (.pr K30 (.int 0))) (.fn 6 (.pr (.fn 8 (.pr K34 (.int 12))) (.int 2))))) (.fn 1 (.pr (.fn 1 (.pr K30 (.int 0))) (.fn 6 (.pr (.fn 8 (.pr K34 (.int 12))) (.int 9))))) K56 rfl rfl rfl rfl (field_0 hp) h0 hn hv
 have:=fun hp hv h0 hn=>@t143_step ρ (.fn 10 (.int 0)) K34 K23 K39 K30 (.fn 1 (.pr K30 (.int 22))) K25 p7 (.fn 1 (.pr (.fn 1 (.pr K30 (.int 0))) (.fn 6 (.pr (.fn 8 (.pr K34 (.int 12))) (.int 0))))) (.fn 1 (.pr (.fn 1 (.pr K30 (.int 0))) (.fn 6 (.pr (.fn 8 (.pr K34 (.int 12))) (.int 1))))) (.fn 1 (.pr (.fn 1 (.pr K30 (.int 0))) (.fn 6 (.pr (.fn 8 (.pr K34 (.int 12))) (.int 2))))) (.fn 1 (.pr (.fn 1 (.pr K30 (.int 0))) (.fn 6 (.pr (.fn 8 (.pr K34 (.int 12))) (.int 9))))) K56 rfl rfl rfl rfl (field_1 hp) h0 hn hv
 try simp only [smA,smW] at *
 grind
def F474:E:=(.imp (.and K35 (.and K57 (.and K59 (.and K60 (.and K61 (.and (.not K62) K66)))))) K70)
theorem G474:Tr F474:=ii11 fun ρ p0 p1 p2 p3 p4 p5 p6 p7 p8 p9 p10=>by
 have:=t117 p10
 have:=@wrap_add ρ K34 (.int 1)
 have:=fun hp hv h0 hn=>@t143_step ρ (.fn 10 (.int 0)) K34 K23 K39 K30 (.fn 1 (.pr K30 (.int 8))) K25 p6 (.fn 1 (.pr (.fn 1 (.pr K30 (.int 0))) (.fn 6 (.pr (.fn 8 (.pr K34 (.int 12))) (.int 0))))) (.fn 1 (.pr (.fn 1 (.pr K30 (.int 0))) (.fn 6 (.pr (.fn 8 (.pr K34 (.int 12))) (.int 1))))) (.fn 1 (.pr (.fn 1 (.pr K30 (.int 0))) (.fn 6 (.pr (.fn 8 (.pr K34 (.int 12))) (.int 2))))) (.fn 1 (.pr (.fn 1 (.pr K30 (.int 0))) (.fn 6 (.pr (.fn 8 (.pr K34 (.int 12))) (.int 9))))) K56 rfl rfl rfl rfl (field_0 hp) h0 hn hv
 have:=fun hp hv h0 hn=>@t143_step ρ (.fn 10 (.int 0)) K34 K23 K39 K30 (.fn 1 (.pr K30 (.int 22))) K25 p6 (.fn 1 (.pr (.fn 1 (.pr K30 (.int 0))) (.fn 6 (.pr (.fn 8 (.pr K34 (.int 12))) (.int 0))))) (.fn 1 (.pr (.fn 1 (.pr K30 (.int 0))) (.fn 6 (.pr (.fn 8 (.pr K34 (.int 12))) (.int 1))))) (.fn 1 (.pr (.fn 1 (.pr K30 (.int 0))) (.fn 6 (.pr (.fn 8 (.pr K34 (.int 12))) (.int 2))))) (.fn 1 (.pr (.fn 1 (.pr K30 (.int 0))) (.fn 6 (.pr (.fn 8 (.pr K34 (.int 12))) (.int 9))))) K56 rfl rfl rfl rfl (field_1 hp) h0 hn hv
 try simp only [smA,smW] at *
 grind
def F475:E:=(.imp (.and K35 (.and K57 (.and K60 (.and (.fn 1 (.pr (.fn 1 (.pr K30 (.int 0))) (.fn 6 (.pr (.fn 8 (.pr K34 (.int 12))) (.int 9))))) K66)))) K70)
theorem G475:Tr F475:=ii9 fun ρ p0 p1 p2 p3 p4 p5 p6 p7 p8=>by
 have:=t117 p8
 have:=@wrap_add ρ K34 (.int 1)
 have:=fun hp hv h0 hn=>@t143_step ρ (.fn 10 (.int 0)) K34 K23 K39 K30 (.fn 1 (.pr K30 (.int 8))) K25 p4 (.fn 1 (.pr (.fn 1 (.pr K30 (.int 0))) (.fn 6 (.pr (.fn 8 (.pr K34 (.int 12))) (.int 0))))) (.fn 1 (.pr (.fn 1 (.pr K30 (.int 0))) (.fn 6 (.pr (.fn 8 (.pr K34 (.int 12))) (.int 1))))) (.fn 1 (.pr (.fn 1 (.pr K30 (.int 0))) (.fn 6 (.pr (.fn 8 (.pr K34 (.int 12))) (.int 2))))) (.fn 1 (.pr (.fn 1 (.pr K30 (.int 0))) (.fn 6 (.pr (.fn 8 (.pr K34 (.int 12))) (.int 9))))) K56 rfl rfl rfl rfl (field_0 hp) h0 hn hv
 have:=fun hp hv h0 hn=>@t143_step ρ (.fn 10 (.int 0)) K34 K23 K39 K30 (.fn 1 (.pr K30 (.int 22))) K25 p4 (.fn 1 (.pr (.fn 1 (.pr K30 (.int 0))) (.fn 6 (.pr (.fn 8 (.pr K34 (.int 12))) (.int 0))))) (.fn 1 (.pr (.fn 1 (.pr K30 (.int 0))) (.fn 6 (.pr (.fn 8 (.pr K34 (.int 12))) (.int 1))))) (.fn 1 (.pr (.fn 1 (.pr K30 (.int 0))) (.fn 6 (.pr (.fn 8 (.pr K34 (.int 12))) (.int 2))))) (.fn 1 (.pr (.fn 1 (.pr K30 (.int 0))) (.fn 6 (.pr (.fn 8 (.pr K34 (.int 12))) (.int 9))))) K56 rfl rfl rfl rfl (field_1 hp) h0 hn hv
 try simp only [smA,smW] at *
 grind
def F476:E:=(.imp (.and K35 (.and K57 (.and (.not K60) K66))) K70)
theorem G476:Tr F476:=ii8 fun ρ p0 p1 p2 p3 p4 p5 p6 p7=>by
 have:=t117 p7
 have:=@wrap_add ρ K34 (.int 1)
 have:=fun hp hv h0 hn=>@t143_step ρ (.fn 10 (.int 0)) K34 K23 K39 K30 (.fn 1 (.pr K30 (.int 8))) K25 p3 (.fn 1 (.pr (.fn 1 (.pr K30 (.int 0))) (.fn 6 (.pr (.fn 8 (.pr K34 (.int 12))) (.int 0))))) (.fn 1 (.pr (.fn 1 (.pr K30 (.int 0))) (.fn 6 (.pr (.fn 8 (.pr K34 (.int 12))) (.int 1))))) (.fn 1 (.pr (.fn 1 (.pr K30 (.int 0))) (.fn 6 (.pr (.fn 8 (.pr K34 (.int 12))) (.int 2))))) (.fn 1 (.pr (.fn 1 (.pr K30 (.int 0))) (.fn 6 (.pr (.fn 8 (.pr K34 (.int 12))) (.int 9))))) K56 rfl rfl rfl rfl (field_0 hp) h0 hn hv
 have:=fun hp hv h0 hn=>@t143_step ρ (.fn 10 (.int 0)) K34 K23 K39 K30 (.fn 1 (.pr K30 (.int 22))) K25 p3 (.fn 1 (.pr (.fn 1 (.pr K30 (.int 0))) (.fn 6 (.pr (.fn 8 (.pr K34 (.int 12))) (.int 0))))) (.fn 1 (.pr (.fn 1 (.pr K30 (.int 0))) (.fn 6 (.pr (.fn 8 (.pr K34 (.int 12))) (.int 1))))) (.fn 1 (.pr (.fn 1 (.pr K30 (.int 0))) (.fn 6 (.pr (.fn 8 (.pr K34 (.int 12))) (.int 2))))) (.fn 1 (.pr (.fn 1 (.pr K30 (.int 0))) (.fn 6 (.pr (.fn 8 (.pr K34 (.int 12))) (.int 9))))) K56 rfl rfl rfl rfl (field_1 hp) h0 hn hv
 try simp only [smA,smW] at *
 grind
def F477:E:=(.imp K74 (.not (.cmp .lss (.int 2147483648) (.fn 6 (.pr K12 (.int 1))))))
theorem G477:Tr F477:=ii4 fun ρ p0 p1 p2 p3=>by
 have:=t117 p0
 try simp only [smA,smW] at *
 omega
def F478:E:=(.imp K74 (.not (.cmp .lss K39 K12)))
theorem G478:Tr F478:=ii4 fun ρ p0 p1 p2 p3=>by
 have:=t117 p0
 try simp only [smA,smW] at *
 obtain ⟨a7,ea7,qa7⟩:=cs_i64 ((E.I ρ K34) + (1))
 try simp only [ea7] at *
 omega
def F479:E:=(.cmp .eql (.fn 8 (.pr (.int 1) (.int 2))) (.int 2))
theorem G479:Tr F479:=fun ρ=>by
 unfold F479
 try simp only [smA,smW] at *
 omega
def F480:E:=(.imp (.and K35 (.and K57 (.and K61 (.and K76 (.and K79 (.and K77 K66)))))) K70)
theorem G480:Tr F480:=ii11 fun ρ p0 p1 p2 p3 p4 p5 p6 p7 p8 p9 p10=>by
 have:=t117 p10
 have:=@wrap_add ρ K34 (.int 1)
 have:=fun hp hv h0 hn=>@t143_step ρ (.fn 10 (.int 0)) K34 K23 K39 K30 (.fn 1 (.pr K30 (.int 22))) K25 p6 (.fn 1 (.pr (.fn 1 (.pr K30 (.int 0))) (.fn 6 (.pr (.fn 8 (.pr K34 (.int 12))) (.int 0))))) (.fn 1 (.pr (.fn 1 (.pr K30 (.int 0))) (.fn 6 (.pr (.fn 8 (.pr K34 (.int 12))) (.int 1))))) (.fn 1 (.pr (.fn 1 (.pr K30 (.int 0))) (.fn 6 (.pr (.fn 8 (.pr K34 (.int 12))) (.int 2))))) (.fn 1 (.pr (.fn 1 (.pr K30 (.int 0))) (.fn 6 (.pr (.fn 8 (.pr K34 (.int 12))) (.int 9))))) K56 rfl rfl rfl rfl (field_1 hp) h0 hn hv
 try simp only [smA,smW] at *
 grind
def F481:E:=(.imp (.and K35 (.and K57 (.and K61 (.and K75 (.and K80 (.and K77 K81)))))) K70)
theorem G481:Tr F481:=ii9 fun ρ p0 p1 p2 p3 p4 p5 p6 p7 p8=>by
 have:=t117 p8
 have:=@wrap_add ρ K34 (.int 1)
 have:=fun hp hv h0 hn=>@t143_step ρ (.fn 10 (.int 0)) K34 K23 K39 K30 (.fn 1 (.pr K30 (.int 8))) K25 p6 (.fn 1 (.pr (.fn 1 (.pr K30 (.int 0))) (.fn 6 (.pr (.fn 8 (.pr K34 (.int 12))) (.int 0))))) (.fn 1 (.pr (.fn 1 (.pr K30 (.int 0))) (.fn 6 (.pr (.fn 8 (.pr K34 (.int 12))) (.int 1))))) (.fn 1 (.pr (.fn 1 (.pr K30 (.int 0))) (.fn 6 (.pr (.fn 8 (.pr K34 (.int 12))) (.int 2))))) (.fn 1 (.pr (.fn 1 (.pr K30 (.int 0))) (.fn 6 (.pr (.fn 8 (.pr K34 (.int 12))) (.int 9))))) K56 rfl rfl rfl rfl (field_0 hp) h0 hn hv
 try simp only [smA,smW] at *
 grind
def F482:E:=(.imp K38 (.cmp .lss (.fn 7 (.pr (.fn 9 (.pr (.fn 1 (.pr K30 (.int 0))) (.int 12))) K39)) (.fn 7 (.pr (.fn 9 (.pr (.fn 1 (.pr K30 (.int 0))) (.int 12))) K34))))
theorem G482:Tr F482:=ii3 fun ρ p0 p1 p2=>by
 have:=t117 p0
 try simp only [smA,smW] at *
 obtain ⟨a6,ea6,qa6⟩:=cs_i64 ((E.I ρ K34) + (1))
 try simp only [ea6] at *
 omega
def F483:E:=(.imp (.and K35 (.and K57 (.and K59 (.and K60 (.and K61 (.and K62 (.and (.not K63) K87))))))) K88)
theorem G483:Tr F483:=ii14 fun ρ p0 p1 p2 p3 p4 p5 p6 p7 p8 p9 p10 p11 p12 p13=>by
 have:=t117 p10
 have:=@wrap_add ρ K34 (.int 1)
 have:=fun hp hv h0 hn=>@t143_step ρ K50 K34 K23 K39 K30 (.fn 1 (.pr K30 (.int 8))) K25 p11 (.fn 1 (.pr (.fn 1 (.pr K30 (.int 0))) (.fn 6 (.pr (.fn 8 (.pr K34 (.int 12))) (.int 0))))) (.fn 1 (.pr (.fn 1 (.pr K30 (.int 0))) (.fn 6 (.pr (.fn 8 (.pr K34 (.int 12))) (.int 1))))) (.fn 1 (.pr (.fn 1 (.pr K30 (.int 0))) (.fn 6 (.pr (.fn 8 (.pr K34 (.int 12))) (.int 2))))) (.fn 1 (.pr (.fn 1 (.pr K30 (.int 0))) (.fn 6 (.pr (.fn 8 (.pr K34 (.int 12))) (.int 9))))) K56 rfl rfl rfl rfl (field_0 hp) h0 hn hv
 have:=fun hp hv h0 hn=>@t143_step ρ K50 K34 K23 K39 K30 (.fn 1 (.pr K30 (.int 22))) K25 p11 (.fn 1 (.pr (.fn 1 (.pr K30 (.int 0))) (.fn 6 (.pr (.fn 8 (.pr K34 (.int 12))) (.int 0))))) (.fn 1 (.pr (.fn 1 (.pr K30 (.int 0))) (.fn 6 (.pr (.fn 8 (.pr K34 (.int 12))) (.int 1))))) (.fn 1 (.pr (.fn 1 (.pr K30 (.int 0))) (.fn 6 (.pr (.fn 8 (.pr K34 (.int 12))) (.int 2))))) (.fn 1 (.pr (.fn 1 (.pr K30 (.int 0))) (.fn 6 (.pr (.fn 8 (.pr K34 (.int 12))) (.int 9))))) K56 rfl rfl rfl rfl (field_1 hp) h0 hn hv
 try simp only [smA,smW] at *
 grind
def F484:E:=(.imp (.and K35 (.and K57 (.and K59 (.and K60 (.and K61 (.and K62 (.and K71 K87))))))) K88)
theorem G484:Tr F484:=ii14 fun ρ p0 p1 p2 p3 p4 p5 p6 p7 p8 p9 p10 p11 p12 p13=>by
 have:=t117 p10
 have:=@wrap_add ρ K34 (.int 1)
 have:=fun hp hv h0 hn=>@t143_step ρ K50 K34 K23 K39 K30 (.fn 1 (.pr K30 (.int 8))) K25 p11 (.fn 1 (.pr (.fn 1 (.pr K30 (.int 0))) (.fn 6 (.pr (.fn 8 (.pr K34 (.int 12))) (.int 0))))) (.fn 1 (.pr (.fn 1 (.pr K30 (.int 0))) (.fn 6 (.pr (.fn 8 (.pr K34 (.int 12))) (.int 1))))) (.fn 1 (.pr (.fn 1 (.pr K30 (.int 0))) (.fn 6 (.pr (.fn 8 (.pr K34 (.int 12))) (.int 2))))) (.fn 1 (.pr (.fn 1 (.pr K30 (.int 0))) (.fn 6 (.pr (.fn 8 (.pr K34 (.int 12))) (.int 9))))) K56 rfl rfl rfl rfl (field_0 hp) h0 hn hv
 have:=fun hp hv h0 hn=>@t143_step ρ K50 K34 K23 K39 K30 (.fn 1 (.pr K30 (.int 22))) K25 p11 (.fn 1 (.pr (.fn 1 (.pr K30 (.int 0))) (.fn 6 (.pr (.fn 8 (.pr K34 (.int 12))) (.int 0))))) (.fn 1 (.pr (.fn 1 (.pr K30 (.int 0))) (.fn 6 (.pr (.fn 8 (.pr K34 (.int 12))) (.int 1))))) (.fn 1 (.pr (.fn 1 (.pr K30 (.int 0))) (.fn 6 (.pr (.fn 8 (.pr K34 (.int 12))) (.int 2))))) (.fn 1 (.pr (.fn 1 (.pr K30 (.int 0))) (.fn 6 (.pr (.fn 8 (.pr K34 (.int 12))) (.int 9))))) K56 rfl rfl rfl rfl (field_1 hp) h0 hn hv
 try simp only [smA,smW] at *
 grind
def F485:E:=(.imp (.and K35 (.and K57 (.and K59 (.and K60 (.and K61 (.and (.not K62) K87)))))) K88)
theorem G485:Tr F485:=ii13 fun ρ p0 p1 p2 p3 p4 p5 p6 p7 p8 p9 p10 p11 p12=>by
 have:=t117 p9
 have:=@wrap_add ρ K34 (.int 1)
 have:=fun hp hv h0 hn=>@t143_step ρ K50 K34 K23 K39 K30 (.fn 1 (.pr K30 (.int 8))) K25 p10 (.fn 1 (.pr (.fn 1 (.pr K30 (.int 0))) (.fn 6 (.pr (.fn 8 (.pr K34 (.int 12))) (.int 0))))) (.fn 1 (.pr (.fn 1 (.pr K30 (.int 0))) (.fn 6 (.pr (.fn 8 (.pr K34 (.int 12))) (.int 1))))) (.fn 1 (.pr (.fn 1 (.pr K30 (.int 0))) (.fn 6 (.pr (.fn 8 (.pr K34 (.int 12))) (.int 2))))) (.fn 1 (.pr (.fn 1 (.pr K30 (.int 0))) (.fn 6 (.pr (.fn 8 (.pr K34 (.int 12))) (.int 9))))) K56 rfl rfl rfl rfl (field_0 hp) h0 hn hv
 have:=fun hp hv h0 hn=>@t143_step ρ K50 K34 K23 K39 K30 (.fn 1 (.pr K30 (.int 22))) K25 p10 (.fn 1 (.pr (.fn 1 (.pr K30 (.int 0))) (.fn 6 (.pr (.fn 8 (.pr K34 (.int 12))) (.int 0))))) (.fn 1 (.pr (.fn 1 (.pr K30 (.int 0))) (.fn 6 (.pr (.fn 8 (.pr K34 (.int 12))) (.int 1))))) (.fn 1 (.pr (.fn 1 (.pr K30 (.int 0))) (.fn 6 (.pr (.fn 8 (.pr K34 (.int 12))) (.int 2))))) (.fn 1 (.pr (.fn 1 (.pr K30 (.int 0))) (.fn 6 (.pr (.fn 8 (.pr K34 (.int 12))) (.int 9))))) K56 rfl rfl rfl rfl (field_1 hp) h0 hn hv
 try simp only [smA,smW] at *
 grind
def F486:E:=(.imp (.and K35 (.and K57 (.and K60 (.and (.fn 1 (.pr (.fn 1 (.pr K30 (.int 0))) (.fn 6 (.pr (.fn 8 (.pr K34 (.int 12))) (.int 9))))) K87)))) K88)
theorem G486:Tr F486:=ii11 fun ρ p0 p1 p2 p3 p4 p5 p6 p7 p8 p9 p10=>by
 have:=t117 p7
 have:=@wrap_add ρ K34 (.int 1)
 have:=fun hp hv h0 hn=>@t143_step ρ K50 K34 K23 K39 K30 (.fn 1 (.pr K30 (.int 8))) K25 p8 (.fn 1 (.pr (.fn 1 (.pr K30 (.int 0))) (.fn 6 (.pr (.fn 8 (.pr K34 (.int 12))) (.int 0))))) (.fn 1 (.pr (.fn 1 (.pr K30 (.int 0))) (.fn 6 (.pr (.fn 8 (.pr K34 (.int 12))) (.int 1))))) (.fn 1 (.pr (.fn 1 (.pr K30 (.int 0))) (.fn 6 (.pr (.fn 8 (.pr K34 (.int 12))) (.int 2))))) (.fn 1 (.pr (.fn 1 (.pr K30 (.int 0))) (.fn 6 (.pr (.fn 8 (.pr K34 (.int 12))) (.int 9))))) K56 rfl rfl rfl rfl (field_0 hp) h0 hn hv
 have:=fun hp hv h0 hn=>@t143_step ρ K50 K34 K23 K39 K30 (.fn 1 (.pr K30 (.int 22))) K25 p8 (.fn 1 (.pr (.fn 1 (.pr K30 (.int 0))) (.fn 6 (.pr (.fn 8 (.pr K34 (.int 12))) (.int 0))))) (.fn 1 (.pr (.fn 1 (.pr K30 (.int 0))) (.fn 6 (.pr (.fn 8 (.pr K34 (.int 12))) (.int 1))))) (.fn 1 (.pr (.fn 1 (.pr K30 (.int 0))) (.fn 6 (.pr (.fn 8 (.pr K34 (.int 12))) (.int 2))))) (.fn 1 (.pr (.fn 1 (.pr K30 (.int 0))) (.fn 6 (.pr (.fn 8 (.pr K34 (.int 12))) (.int 9))))) K56 rfl rfl rfl rfl (field_1 hp) h0 hn hv
 try simp only [smA,smW] at *
 grind
def F487:E:=(.imp (.and K35 (.and K57 (.and (.not K60) K87))) K88)
theorem G487:Tr F487:=ii10 fun ρ p0 p1 p2 p3 p4 p5 p6 p7 p8 p9=>by
 have:=t117 p6
 have:=@wrap_add ρ K34 (.int 1)
 have:=fun hp hv h0 hn=>@t143_step ρ K50 K34 K23 K39 K30 (.fn 1 (.pr K30 (.int 8))) K25 p7 (.fn 1 (.pr (.fn 1 (.pr K30 (.int 0))) (.fn 6 (.pr (.fn 8 (.pr K34 (.int 12))) (.int 0))))) (.fn 1 (.pr (.fn 1 (.pr K30 (.int 0))) (.fn 6 (.pr (.fn 8 (.pr K34 (.int 12))) (.int 1))))) (.fn 1 (.pr (.fn 1 (.pr K30 (.int 0))) (.fn 6 (.pr (.fn 8 (.pr K34 (.int 12))) (.int 2))))) (.fn 1 (.pr (.fn 1 (.pr K30 (.int 0))) (.fn 6 (.pr (.fn 8 (.pr K34 (.int 12))) (.int 9))))) K56 rfl rfl rfl rfl (field_0 hp) h0 hn hv
 have:=fun hp hv h0 hn=>@t143_step ρ K50 K34 K23 K39 K30 (.fn 1 (.pr K30 (.int 22))) K25 p7 (.fn 1 (.pr (.fn 1 (.pr K30 (.int 0))) (.fn 6 (.pr (.fn 8 (.pr K34 (.int 12))) (.int 0))))) (.fn 1 (.pr (.fn 1 (.pr K30 (.int 0))) (.fn 6 (.pr (.fn 8 (.pr K34 (.int 12))) (.int 1))))) (.fn 1 (.pr (.fn 1 (.pr K30 (.int 0))) (.fn 6 (.pr (.fn 8 (.pr K34 (.int 12))) (.int 2))))) (.fn 1 (.pr (.fn 1 (.pr K30 (.int 0))) (.fn 6 (.pr (.fn 8 (.pr K34 (.int 12))) (.int 9))))) K56 rfl rfl rfl rfl (field_1 hp) h0 hn hv
 try simp only [smA,smW] at *
 grind
def F488:E:=(.imp K38 (.not (.cmp .lss K39 (.int 1))))
theorem G488:Tr F488:=ii3 fun ρ p0 p1 p2=>by
 have:=t117 p0
 try simp only [smA,smW] at *
 obtain ⟨a7,ea7,qa7⟩:=cs_i64 ((E.I ρ K34) + (1))
 try simp only [ea7] at *
 omega
def F489:E:=(.imp K37 (.not (.cmp .lss (.fn 7 (.pr (.fn 9 (.pr (.fn 1 (.pr K30 (.int 0))) (.int 12))) K39)) (.int 0))))
theorem G489:Tr F489:=ii2 fun ρ p0 p1=>by
 try simp only [smA,smW] at *
 obtain ⟨a6,ea6,qa6⟩:=cs_i64 ((E.I ρ K34) + (1))
 try simp only [ea6] at *
 omega
def F490:E:=(.imp (.and K35 (.and K57 (.and K61 (.and K76 (.and K79 (.and K77 K87)))))) K88)
theorem G490:Tr F490:=ii13 fun ρ p0 p1 p2 p3 p4 p5 p6 p7 p8 p9 p10 p11 p12=>by
 have:=t117 p9
 have:=@wrap_add ρ K34 (.int 1)
 have:=fun hp hv h0 hn=>@t143_step ρ K50 K34 K23 K39 K30 (.fn 1 (.pr K30 (.int 22))) K25 p10 (.fn 1 (.pr (.fn 1 (.pr K30 (.int 0))) (.fn 6 (.pr (.fn 8 (.pr K34 (.int 12))) (.int 0))))) (.fn 1 (.pr (.fn 1 (.pr K30 (.int 0))) (.fn 6 (.pr (.fn 8 (.pr K34 (.int 12))) (.int 1))))) (.fn 1 (.pr (.fn 1 (.pr K30 (.int 0))) (.fn 6 (.pr (.fn 8 (.pr K34 (.int 12))) (.int 2))))) (.fn 1 (.pr (.fn 1 (.pr K30 (.int 0))) (.fn 6 (.pr (.fn 8 (.pr K34 (.int 12))) (.int 9))))) K56 rfl rfl rfl rfl (field_1 hp) h0 hn hv
 try simp only [smA,smW] at *
 grind
def F491:E:=(.imp (.and K35 (.and K57 (.and K61 (.and K75 (.and K80 (.and K77 K89)))))) K88)
theorem G491:Tr F491:=ii11 fun ρ p0 p1 p2 p3 p4 p5 p6 p7 p8 p9 p10=>by
 have:=t117 p7
 have:=@wrap_add ρ K34 (.int 1)
 have:=fun hp hv h0 hn=>@t143_step ρ K50 K34 K23 K39 K30 (.fn 1 (.pr K30 (.int 8))) K25 p8 (.fn 1 (.pr (.fn 1 (.pr K30 (.int 0))) (.fn 6 (.pr (.fn 8 (.pr K34 (.int 12))) (.int 0))))) (.fn 1 (.pr (.fn 1 (.pr K30 (.int 0))) (.fn 6 (.pr (.fn 8 (.pr K34 (.int 12))) (.int 1))))) (.fn 1 (.pr (.fn 1 (.pr K30 (.int 0))) (.fn 6 (.pr (.fn 8 (.pr K34 (.int 12))) (.int 2))))) (.fn 1 (.pr (.fn 1 (.pr K30 (.int 0))) (.fn 6 (.pr (.fn 8 (.pr K34 (.int 12))) (.int 9))))) K56 rfl rfl rfl rfl (field_0 hp) h0 hn hv
 try simp only [smA,smW] at *
 grind
def F492:E:=(.imp (.and K35 (.and K57 (.and K59 (.and K60 (.and K61 (.and K62 (.and (.not K71) (.and K63 (.and K76 (.and K79 (.and K78 K66))))))))))) K91)
theorem G492:Tr F492:=ii16 fun ρ p0 p1 p2 p3 p4 p5 p6 p7 p8 p9 p10 p11 p12 p13 p14 p15=>by
 have:=t117 p15
 have:=@wrap_add ρ K34 (.int 1)
 have hnil11:ints ρ (.fn 10 (.int 0))=[]:=rfl
 have:=fun hp hv h0 hn=>@t143_step ρ (.fn 10 (.int 0)) K34 K23 K39 K30 (.fn 1 (.pr K30 (.int 22))) K25 p11 (.fn 1 (.pr (.fn 1 (.pr K30 (.int 0))) (.fn 6 (.pr (.fn 8 (.pr K34 (.int 12))) (.int 0))))) (.fn 1 (.pr (.fn 1 (.pr K30 (.int 0))) (.fn 6 (.pr (.fn 8 (.pr K34 (.int 12))) (.int 1))))) (.fn 1 (.pr (.fn 1 (.pr K30 (.int 0))) (.fn 6 (.pr (.fn 8 (.pr K34 (.int 12))) (.int 2))))) (.fn 1 (.pr (.fn 1 (.pr K30 (.int 0))) (.fn 6 (.pr (.fn 8 (.pr K34 (.int 12))) (.int 9))))) K56 rfl rfl rfl rfl (field_1 hp) h0 hn hv
 try simp only [smA,smW] at *
 grind
def F493:E:=(.imp (.and K35 (.and K57 (.and K59 (.and K60 (.and K61 (.and K62 (.and (.not K71) (.and K63 (.and K75 (.and K80 (.and K78 K81))))))))))) K91)
theorem G493:Tr F493:=ii14 fun ρ p0 p1 p2 p3 p4 p5 p6 p7 p8 p9 p10 p11 p12 p13=>by
 have:=t117 p13
 have:=@wrap_add ρ K34 (.int 1)
 have hnil11:ints ρ (.fn 10 (.int 0))=[]:=rfl
 have:=fun hp hv h0 hn=>@t143_step ρ (.fn 10 (.int 0)) K34 K23 K39 K30 (.fn 1 (.pr K30 (.int 8))) K25 p11 (.fn 1 (.pr (.fn 1 (.pr K30 (.int 0))) (.fn 6 (.pr (.fn 8 (.pr K34 (.int 12))) (.int 0))))) (.fn 1 (.pr (.fn 1 (.pr K30 (.int 0))) (.fn 6 (.pr (.fn 8 (.pr K34 (.int 12))) (.int 1))))) (.fn 1 (.pr (.fn 1 (.pr K30 (.int 0))) (.fn 6 (.pr (.fn 8 (.pr K34 (.int 12))) (.int 2))))) (.fn 1 (.pr (.fn 1 (.pr K30 (.int 0))) (.fn 6 (.pr (.fn 8 (.pr K34 (.int 12))) (.int 9))))) K56 rfl rfl rfl rfl (field_0 hp) h0 hn hv
 try simp only [smA,smW] at *
 grind
def F494:E:=(.imp K51 (.cmp .eql (.fn 6 (.pr (.fn 0 K50) (.int 2))) (.fn 8 (.pr (.fn 6 (.pr K12 (.int 1))) (.int 2)))))
theorem G494:Tr F494:=ii1 fun ρ p0=>by
 try simp only [smA,smW] at *
 omega
def F495:E:=(.imp K74 (.not (.cmp .lss K39 (.fn 6 (.pr K12 (.int 1))))))
theorem G495:Tr F495:=ii4 fun ρ p0 p1 p2 p3=>by
 have:=t117 p0
 try simp only [smA,smW] at *
 obtain ⟨a8,ea8,qa8⟩:=cs_i64 ((E.I ρ K34) + (1))
 try simp only [ea8] at *
 omega
def F496:E:=(.imp (.and K35 (.and K57 (.and K59 (.and K60 (.and K61 (.and K62 (.and (.not K71) (.and K63 (.and K76 (.and K79 (.and K78 K87))))))))))) K93)
theorem G496:Tr F496:=ii18 fun ρ p0 p1 p2 p3 p4 p5 p6 p7 p8 p9 p10 p11 p12 p13 p14 p15 p16 p17=>by
 have:=t117 p14
 have:=@wrap_add ρ K34 (.int 1)
 have:=fun hp hv h0 hn=>@t143_step ρ K50 K34 K23 K39 K30 (.fn 1 (.pr K30 (.int 22))) K25 p15 (.fn 1 (.pr (.fn 1 (.pr K30 (.int 0))) (.fn 6 (.pr (.fn 8 (.pr K34 (.int 12))) (.int 0))))) (.fn 1 (.pr (.fn 1 (.pr K30 (.int 0))) (.fn 6 (.pr (.fn 8 (.pr K34 (.int 12))) (.int 1))))) (.fn 1 (.pr (.fn 1 (.pr K30 (.int 0))) (.fn 6 (.pr (.fn 8 (.pr K34 (.int 12))) (.int 2))))) (.fn 1 (.pr (.fn 1 (.pr K30 (.int 0))) (.fn 6 (.pr (.fn 8 (.pr K34 (.int 12))) (.int 9))))) K56 rfl rfl rfl rfl (field_1 hp) h0 hn hv
 try simp only [smA,smW] at *
 grind
def F497:E:=(.imp (.and K35 (.and K57 (.and K59 (.and K60 (.and K61 (.and K62 (.and (.not K71) (.and K63 (.and K75 (.and K80 (.and K78 K89))))))))))) K93)
theorem G497:Tr F497:=ii16 fun ρ p0 p1 p2 p3 p4 p5 p6 p7 p8 p9 p10 p11 p12 p13 p14 p15=>by
 have:=t117 p12
 have:=@wrap_add ρ K34 (.int 1)
 have:=fun hp hv h0 hn=>@t143_step ρ K50 K34 K23 K39 K30 (.fn 1 (.pr K30 (.int 8))) K25 p13 (.fn 1 (.pr (.fn 1 (.pr K30 (.int 0))) (.fn 6 (.pr (.fn 8 (.pr K34 (.int 12))) (.int 0))))) (.fn 1 (.pr (.fn 1 (.pr K30 (.int 0))) (.fn 6 (.pr (.fn 8 (.pr K34 (.int 12))) (.int 1))))) (.fn 1 (.pr (.fn 1 (.pr K30 (.int 0))) (.fn 6 (.pr (.fn 8 (.pr K34 (.int 12))) (.int 2))))) (.fn 1 (.pr (.fn 1 (.pr K30 (.int 0))) (.fn 6 (.pr (.fn 8 (.pr K34 (.int 12))) (.int 9))))) K56 rfl rfl rfl rfl (field_0 hp) h0 hn hv
 try simp only [smA,smW] at *
 grind
namespace p33
def facts:List E:=[F462,F463,F464,F465,F466,F467,F468,F469,F470,F471,F472,F473,F474,F475,F476,F477,F478,F479,F480,F481,F482,F483,F484,F485,F486,F487,F488,F489,F490,F491,F492,F493,F494,F495,F496,F497]
theorem facts_ok:∀ e∈facts,Tr e:=(ac G462 (ac G463 (ac G464 (ac G465 (ac G466 (ac G467 (ac G468 (ac G469 (ac G470 (ac G471 (ac G472 (ac G473 (ac G474 (ac G475 (ac G476 (ac G477 (ac G478 (ac G479 (ac G480 (ac G481 (ac G482 (ac G483 (ac G484 (ac G485 (ac G486 (ac G487 (ac G488 (ac G489 (ac G490 (ac G491 (ac G492 (ac G493 (ac G494 (ac G495 (ac G496 (ac G497 all_nil))))))))))))))))))))))))))))))))))))
end p33
theorem spec33_0:NatOk Try.prog (specNat (spSo)) :=
 spec_of_check good (facts:=p33.facts) p33.facts_ok (anns:=annSo) (plainAnns_ok _ (by kernel_rfl)) (nats:=natl34) natl34_ok (n:=3000) (by kernel_rfl)
def natl35:List Nat1:=frzNat ([kT]) (specNat (spSo))::natl34
theorem natl35_ok:∀ x∈natl35,NatOk Try.prog x:=by
 intro x hx
 rcases List.mem_cons.1 hx with rfl | hx
 ·exact frzNat_ok spec33_0
 exact natl34_ok x hx

def F498:E:=(.imp (.and (.cmp .eql K30 (.int 1)) (.iff K23 (.fn 115 K25))) (.iff K23 K95))
theorem G498:Tr F498:=ii2 fun ρ p0 p1=>by
 have:=@z145 ρ K30 K25
 have:=@t_valid ρ K25
 try simp only [smA,smW] at *
 grind
def F499:E:=(.imp (.and (.not (.cmp .eql K30 (.int 0))) (.not (.cmp .eql K30 (.int 1)))) (.iff (.bool false) K95))
theorem G499:Tr F499:=ii2 fun ρ p0 p1=>by
 have:=@z145 ρ K30 K25
 try simp only [smA,smW] at *
 grind
def F500:E:=(.imp (.and (.cmp .eql K30 (.int 0)) (.iff K23 (.fn 115 K25))) (.iff K23 K95))
theorem G500:Tr F500:=ii2 fun ρ p0 p1=>by
 have:=@z145 ρ K30 K25
 have:=@t_valid ρ K25
 try simp only [smA,smW] at *
 grind
namespace p34
def facts:List E:=[F498,F499,F500]
theorem facts_ok:∀ e∈facts,Tr e:=(ac G498 (ac G499 (ac G500 all_nil)))
end p34
theorem spec34_0:NatOk Try.prog (specNat (spFn)) :=
 spec_of_check good (facts:=p34.facts) p34.facts_ok (anns:=[]) (plainAnns_ok _ (by kernel_rfl)) (nats:=natl35) natl35_ok (n:=3000) (by kernel_rfl)
def natl36:List Nat1:=specNat (spFn)::natl35
theorem natl36_ok:∀ x∈natl36,NatOk Try.prog x:=by
 intro x hx
 rcases List.mem_cons.1 hx with rfl | hx
 ·exact spec34_0
 exact natl35_ok x hx

def F501:E:=(.imp (.and K27 (.cmp .lss (.int 20) K23)) K103)
theorem G501:Tr F501:=ii2 fun ρ p0 p1=>by
 have:=@z146 ρ K23 K96 K97 K98 K99
 try simp only [smA,smW] at *
 grind
def F502:E:=(.imp (.and K27 (.and K104 (.and K105 (.cmp .lss (.int 20) K96)))) K103)
theorem G502:Tr F502:=ii4 fun ρ p0 p1 p2 p3=>by
 have:=@z146 ρ K23 K96 K97 K98 K99
 try simp only [smA,smW] at *
 grind
def F503:E:=(.imp (.and K27 (.and K104 (.and K105 (.and K106 (.and K107 K108))))) K103)
theorem G503:Tr F503:=ii6 fun ρ p0 p1 p2 p3 p4 p5=>by
 have:=@z146 ρ K23 K96 K97 K98 K99
 try simp only [smA,smW] at *
 grind
def F504:E:=(.imp (.and K27 (.and K104 (.and K105 (.and K106 (.and K107 (.and K109 (.and K111 K112))))))) K103)
theorem G504:Tr F504:=ii8 fun ρ p0 p1 p2 p3 p4 p5 p6 p7=>by
 have:=@z146 ρ K23 K96 K97 K98 K99
 try simp only [smA,smW] at *
 grind
def F505:E:=(.imp (.and K27 (.and K104 (.and K105 (.and K106 (.and K107 (.and K109 (.and K111 (.and K113 (.and (.not K114) (.and (.not (.cmp .lss (.int 1) K30)) (.and (.not K115) (.and (.not (.cmp .lss (.int 20) K99)) (.iff (.var 7) (.fn 130 K25)))))))))))))) (.iff (.var 7) K102))
theorem G505:Tr F505:=ii13 fun ρ p0 p1 p2 p3 p4 p5 p6 p7 p8 p9 p10 p11 p12=>by
 have:=@z145 ρ K30 K25
 have:=@z146 ρ K23 K96 K97 K98 K99
 try simp only [smA,smW] at *
 grind
def F506:E:=(.imp (.and K27 (.and K104 (.and K105 (.and K106 (.and K107 (.and K109 (.and K111 (.and K113 (.and (.not K115) (.cmp .lss (.int 20) K99)))))))))) K103)
theorem G506:Tr F506:=ii10 fun ρ p0 p1 p2 p3 p4 p5 p6 p7 p8 p9=>by
 have:=@z146 ρ K23 K96 K97 K98 K99
 try simp only [smA,smW] at *
 grind
def F507:E:=(.imp (.and K27 (.and K104 (.and K105 (.and K106 (.and K107 (.and K109 (.and K111 (.and K113 K115)))))))) K103)
theorem G507:Tr F507:=ii9 fun ρ p0 p1 p2 p3 p4 p5 p6 p7 p8=>by
 have:=@z146 ρ K23 K96 K97 K98 K99
 try simp only [smA,smW] at *
 grind
def F508:E:=(.imp (.and (.not K114) (.cmp .lss (.int 1) K30)) K103)
theorem G508:Tr F508:=ii2 fun ρ p0 p1=>by
 have:=@z145 ρ K30 K25
 try simp only [smA,smW] at *
 grind
def F509:E:=(.imp K114 K103)
theorem G509:Tr F509:=ii1 fun ρ p0=>by
 have:=@z145 ρ K30 K25
 try simp only [smA,smW] at *
 grind
def F510:E:=(.imp (.and K27 (.and K104 (.and K105 (.and K106 (.and K107 (.and K109 K110)))))) K103)
theorem G510:Tr F510:=ii7 fun ρ p0 p1 p2 p3 p4 p5 p6=>by
 have:=@z146 ρ K23 K96 K97 K98 K99
 try simp only [smA,smW] at *
 grind
def F511:E:=(.imp (.and K27 (.and K104 (.and K105 (.and K106 (.cmp .lss K97 (.int 0)))))) K103)
theorem G511:Tr F511:=ii5 fun ρ p0 p1 p2 p3 p4=>by
 have:=@z146 ρ K23 K96 K97 K98 K99
 try simp only [smA,smW] at *
 grind
def F512:E:=(.imp (.and K27 (.and K104 (.cmp .lss K96 (.int 0)))) K103)
theorem G512:Tr F512:=ii3 fun ρ p0 p1 p2=>by
 have:=@z146 ρ K23 K96 K97 K98 K99
 try simp only [smA,smW] at *
 grind
def F513:E:=(.imp K24 K103)
theorem G513:Tr F513:=ii1 fun ρ p0=>by
 have:=@z146 ρ K23 K96 K97 K98 K99
 try simp only [smA,smW] at *
 grind
namespace p35
def facts:List E:=[F501,F502,F503,F504,F505,F506,F507,F508,F509,F510,F511,F512,F513]
theorem facts_ok:∀ e∈facts,Tr e:=(ac G501 (ac G502 (ac G503 (ac G504 (ac G505 (ac G506 (ac G507 (ac G508 (ac G509 (ac G510 (ac G511 (ac G512 (ac G513 all_nil)))))))))))))
end p35
theorem spec35_0:NatOk Try.prog (specNat (spRi)) :=
 spec_of_check good (facts:=p35.facts) p35.facts_ok (anns:=[]) (plainAnns_ok _ (by kernel_rfl)) (nats:=natl36) natl36_ok (n:=3000) (by kernel_rfl)
def natl37:List Nat1:=specNat (spRi)::natl36
theorem natl37_ok:∀ x∈natl37,NatOk Try.prog x:=by
 intro x hx
 rcases List.mem_cons.1 hx with rfl | hx
 ·exact spec35_0
 exact natl36_ok x hx

def F514:E:=(.imp (.and K117 (.not K96)) K121)
theorem G514:Tr F514:=ii2 fun ρ p0 p1=>by
 try simp only [smA,smW] at *
 grind
def F515:E:=(.imp K122 K27)
theorem G515:Tr F515:=ii2 fun ρ p0 p1=>by
 have:=@z145 ρ K23 K30
 try simp only [smA,smW] at *
 grind
def F516:E:=(.imp K122 K65)
theorem G516:Tr F516:=ii2 fun ρ p0 p1=>by
 have:=@z145 ρ K23 K30
 try simp only [smA,smW] at *
 grind
def F517:E:=(.imp K122 K116)
theorem G517:Tr F517:=ii2 fun ρ p0 p1=>by
 try simp only [smA,smW] at *
 grind
def F518:E:=(.imp (.fn 143 (.pr K97 K47)) (.fn 143 (.pr (.fn 28 (.pr (.pr (.var 7) K98) K97)) K47)))
theorem G518:Tr F518:=ii1 fun ρ p0=>by
 have:=@t143_28 ρ K97 (.pr (.var 7) K98) K23 (.fn 9 (.pr (.fn 1 (.pr K30 (.int 0))) (.int 12))) K30 K25
 try simp only [smA,smW] at *
 grind
def F519:E:=(.imp (.fn 143 (.pr (.fn 10 (.int 0)) K47)) (.fn 143 (.pr (.fn 30 (.int 0)) K47)))
theorem G519:Tr F519:=ii1 fun ρ p0=>by
 have:=@t143_30 ρ (.int 0) (.int 0) K23 (.fn 9 (.pr (.fn 1 (.pr K30 (.int 0))) (.int 12))) K30 K25
 try simp only [smA,smW] at *
 grind
def F520:E:=(.imp K123 (.cmp .eql K98 (.fn 9 (.pr (.fn 28 (.pr (.pr (.var 7) K98) K97)) (.int 2)))))
theorem G520:Tr F520:=ii1 fun ρ p0=>by
 have:=@rows2_28 ρ K97 (.pr (.var 7) K98)
 have:=@rows2_len ρ K97
 try simp only [smA,smW] at *
 grind
def F521:E:=(.cmp .eql (.fn 9 (.pr (.fn 30 (.int 0)) (.int 2))) (.int 0))
theorem G521:Tr F521:=fun ρ=>by
 unfold F521
 have:=@rows_30 ρ (.int 0) 2
 try simp only [smA,smW] at *
 grind
def F522:E:=(.imp (.and (.not (.cmp .lss (.fn 9 (.pr (.fn 1 (.pr K30 (.int 0))) (.int 12))) K98)) K123) (.not (.cmp .lss (.fn 9 (.pr (.fn 1 (.pr K30 (.int 0))) (.int 12))) (.fn 9 (.pr (.fn 28 (.pr (.pr (.var 7) K98) K97)) (.int 2))))))
theorem G522:Tr F522:=ii2 fun ρ p0 p1=>by
 have:=@rows2_28 ρ K97 (.pr (.var 7) K98)
 have:=@rows2_len ρ K97
 try simp only [smA,smW] at *
 grind
def F523:E:=(.imp K31 (.not (.cmp .lss (.fn 9 (.pr (.fn 1 (.pr K30 (.int 0))) (.int 12))) (.fn 9 (.pr (.fn 30 (.int 0)) (.int 2))))))
theorem G523:Tr F523:=ii1 fun ρ p0=>by
 have:=t117 p0
 have:=@rows_30 ρ (.int 0) 2
 try simp only [smA,smW] at *
 grind
def F524:E:=(.imp (.and K125 (.and K126 K127)) K128)
theorem G524:Tr F524:=ii3 fun ρ p0 p1 p2=>by
 try simp only [smA,smW] at *
 omega
def F525:E:=(.imp (.and (.not K125) (.and K126 (.and (.not (.cmp .lss K58 K124)) (.and K127 K55)))) K121)
theorem G525:Tr F525:=ii5 fun ρ p0 p1 p2 p3 p4=>by
 have:=@t144_nil ρ (.int 0) _ _ _ _ p4
 try simp only [smA,smW] at *
 grind
def F526:E:=(.imp (.and K125 K130) K128)
theorem G526:Tr F526:=ii3 fun ρ p0 p1 p2=>by
 try simp only [smA,smW] at *
 omega
def F527:E:=(.imp (.and K31 (.and (.not K125) (.and (.not (.cmp .lss K58 K124)) K132))) (.not (.cmp .lss (.int 30) K52)))
theorem G527:Tr F527:=ii6 fun ρ p0 p1 p2 p3 p4 p5=>by
 have:=t117 p0
 try simp only [smA,smW] at *
 omega
def F528:E:=(.imp K126 (.not (.cmp .lss K133 (.int 0))))
theorem G528:Tr F528:=ii1 fun ρ p0=>by
 try simp only [smA,smW] at *
 obtain ⟨a1,ea1,qa1⟩:=cs_i64 ((E.I ρ K124) + (1))
 try simp only [ea1] at *
 omega
def F529:E:=(.imp (.and (.not (.cmp .lss K34 K52)) K135) K36)
theorem G529:Tr F529:=ii2 fun ρ p0 p1=>by
 try simp only [smA,smW] at *
 omega
def F530:E:=(.imp (.and (.not K125) (.and K127 (.and K55 (.fn 148 (.pr K12 (.pr K50 K124)))))) (.fn 144 (.pr K12 K118)))
theorem G530:Tr F530:=ii4 fun ρ p0 p1 p2 p3=>by
 have:=@t144_of ρ _ _ _ _ _ _ p2 p3
 try simp only [smA,smW] at *
 grind
def F531:E:=(.imp (.and K125 K126) (.not (.cmp .lss K58 K133)))
theorem G531:Tr F531:=ii2 fun ρ p0 p1=>by
 try simp only [smA,smW] at *
 obtain ⟨a2,ea2,qa2⟩:=cs_i64 ((E.I ρ K124) + (1))
 try simp only [ea2] at *
 omega
def F532:E:=(.imp (.and K31 (.and K125 K132)) (.not (.cmp .lss (.int 2147483648) (.fn 6 (.pr K52 (.int 1))))))
theorem G532:Tr F532:=ii5 fun ρ p0 p1 p2 p3 p4=>by
 have:=t117 p0
 have:=nn9 ρ (.pr K50 (.int 2))
 try simp only [smA,smW] at *
 omega
def F533:E:=(.imp K126 (.cmp .eql K133 (.int 1)))
theorem G533:Tr F533:=ii1 fun ρ p0=>by
 try simp only [smA,smW] at *
 obtain ⟨a1,ea1,qa1⟩:=cs_i64 ((E.I ρ K124) + (1))
 try simp only [ea1] at *
 omega
def F534:E:=(.imp K140 (.not (.cmp .lss K133 (.int 0))))
theorem G534:Tr F534:=ii6 fun ρ p0 p1 p2 p3 p4 p5=>by
 have:=t117 p0
 have:=nn9 ρ (.pr K50 (.int 2))
 try simp only [smA,smW] at *
 obtain ⟨a5,ea5,qa5⟩:=cs_i64 ((E.I ρ K124) + (1))
 try simp only [ea5] at *
 omega
def F535:E:=(.imp (.and K125 (.and K126 (.and (.not (.cmp .lss K124 (.int 0))) (.and K131 (.and K127 K31))))) (.fn 148 (.pr (.fn 23 (.pr (.fn 1 (.pr K50 (.fn 6 (.pr (.fn 8 (.pr K124 (.int 2))) (.int 0))))) (.fn 10 (.int 0)))) (.pr K50 K133))))
theorem G535:Tr F535:=ii6 fun ρ p0 p1 p2 p3 p4 p5=>by
 have:=t117 p5
 have:=@wrap_add ρ K124 (.int 1)
 have:=@t148_step ρ (.fn 10 (.int 0)) K124 K133 K50 (.fn 1 (.pr K50 (.fn 6 (.pr (.fn 8 (.pr K124 (.int 2))) (.int 0))))) rfl
 try simp only [smA,smW] at *
 grind
def F536:E:=(.imp K141 (.not (.cmp .lss K58 K133)))
theorem G536:Tr F536:=ii3 fun ρ p0 p1 p2=>by
 try simp only [smA,smW] at *
 obtain ⟨a3,ea3,qa3⟩:=cs_i64 ((E.I ρ K124) + (1))
 try simp only [ea3] at *
 omega
def F537:E:=(.imp K126 K142)
theorem G537:Tr F537:=ii1 fun ρ p0=>by
 try simp only [smA,smW] at *
 obtain ⟨a2,ea2,qa2⟩:=cs_i64 ((E.I ρ K124) + (1))
 try simp only [ea2] at *
 omega
def F538:E:=(.imp K140 (.cmp .eql (.fn 6 (.pr K52 (.int 1))) K133))
theorem G538:Tr F538:=ii6 fun ρ p0 p1 p2 p3 p4 p5=>by
 have:=t117 p0
 have:=nn9 ρ (.pr K50 (.int 2))
 try simp only [smA,smW] at *
 obtain ⟨a5,ea5,qa5⟩:=cs_i64 ((E.I ρ K124) + (1))
 try simp only [ea5] at *
 omega
def F539:E:=(.imp (.and K125 K126) K144)
theorem G539:Tr F539:=ii2 fun ρ p0 p1=>by
 try simp only [smA,smW] at *
 obtain ⟨a2,ea2,qa2⟩:=cs_i64 ((E.I ρ K124) + (1))
 try simp only [ea2] at *
 omega
def F540:E:=(.imp (.cmp .eql (.fn 0 K12) K52) (.cmp .eql (.fn 6 (.pr (.fn 0 K12) (.int 1))) (.fn 6 (.pr K52 (.int 1)))))
theorem G540:Tr F540:=ii1 fun ρ p0=>by
 try simp only [smA,smW] at *
 omega
def F541:E:=(.imp (.and K125 (.and (.not (.cmp .lss K124 (.int 0))) (.and K131 (.and K127 (.and K31 (.and (.fn 148 (.pr K12 (.pr K50 K124))) K136)))))) (.fn 148 (.pr (.fn 3 (.pr K12 (.fn 23 (.pr (.fn 1 (.pr K50 (.fn 6 (.pr (.fn 8 (.pr K124 (.int 2))) (.int 0))))) (.fn 10 (.int 0)))))) (.pr K50 K133))))
theorem G541:Tr F541:=ii8 fun ρ p0 p1 p2 p3 p4 p5 p6 p7=>by
 have:=t117 p4
 have:=@wrap_add ρ K124 (.int 1)
 have:=@t148_step ρ K12 K124 K133 K50 (.fn 1 (.pr K50 (.fn 6 (.pr (.fn 8 (.pr K124 (.int 2))) (.int 0))))) rfl
 try simp only [smA,smW] at *
 grind
def F542:E:=(.imp K140 K142)
theorem G542:Tr F542:=ii6 fun ρ p0 p1 p2 p3 p4 p5=>by
 have:=t117 p0
 have:=nn9 ρ (.pr K50 (.int 2))
 try simp only [smA,smW] at *
 obtain ⟨a5,ea5,qa5⟩:=cs_i64 ((E.I ρ K124) + (1))
 try simp only [ea5] at *
 omega
def F543:E:=(.imp K141 K144)
theorem G543:Tr F543:=ii3 fun ρ p0 p1 p2=>by
 try simp only [smA,smW] at *
 obtain ⟨a3,ea3,qa3⟩:=cs_i64 ((E.I ρ K124) + (1))
 try simp only [ea3] at *
 omega
namespace p36
def facts:List E:=[F514,F515,F516,F517,F518,F519,F462,F520,F521,F522,F523,F524,F525,F526,F527,F528,F529,F530,F531,F532,F533,F534,F535,F536,F537,F538,F539,F540,F541,F542,F543]
theorem facts_ok:∀ e∈facts,Tr e:=(ac G514 (ac G515 (ac G516 (ac G517 (ac G518 (ac G519 (ac G462 (ac G520 (ac G521 (ac G522 (ac G523 (ac G524 (ac G525 (ac G526 (ac G527 (ac G528 (ac G529 (ac G530 (ac G531 (ac G532 (ac G533 (ac G534 (ac G535 (ac G536 (ac G537 (ac G538 (ac G539 (ac G540 (ac G541 (ac G542 (ac G543 all_nil)))))))))))))))))))))))))))))))
end p36
theorem spec36_0:NatOk Try.prog (specNat (spPS)) :=
 spec_of_check good (facts:=p36.facts) p36.facts_ok (anns:=annPS) (plainAnns_ok _ (by kernel_rfl)) (nats:=natl37) natl37_ok (n:=3000) (by kernel_rfl)
def natl38:List Nat1:=specNat (spPS)::natl37
theorem natl38_ok:∀ x∈natl38,NatOk Try.prog x:=by
 intro x hx
 rcases List.mem_cons.1 hx with rfl | hx
 ·exact spec36_0
 exact natl37_ok x hx

def F544:E:=(.imp (.and K117 (.not K96)) (.not K116))
theorem G544:Tr F544:=ii2 fun ρ p0 p1=>by
 try simp only [smA,smW] at *
 grind
def F545:E:=(.imp K145 (.cmp .eql K23 (.int 1)))
theorem G545:Tr F545:=ii3 fun ρ p0 p1 p2=>by
 have:=@z145 ρ K23 K30
 try simp only [smA,smW] at *
 grind
def F546:E:=(.imp K75 (.fn 147 (.pr (.fn 1 (.pr K30 (.int 2))) (.pr (.fn 1 (.pr K30 (.int 3))) (.pr (.fn 1 (.pr K30 (.int 4))) (.pr (.fn 1 (.pr K30 (.int 5))) K33))))))
theorem G546:Tr F546:=ii1 fun ρ p0=>by
 have:=@t147_0 ρ K23 (.int 0) K30 K25
 try simp only [smA,smW] at *
 grind
def F547:E:=(.imp (.and K147 (.and K149 K150)) (.cmp .lss K58 (.fn 9 (.pr K50 (.int 2)))))
theorem G547:Tr F547:=ii3 fun ρ p0 p1 p2=>by
 try simp only [smA,smW] at *
 grind
def F548:E:=(.imp (.and (.not K147) (.and K155 K156)) (.fn 147 (.pr K12 (.pr K52 (.pr K34 (.pr K124 (.pr K25 (.pr K30 (.pr K23 (.int 30))))))))))
theorem G548:Tr F548:=ii6 fun ρ p0 p1 p2 p3 p4 p5=>by
 have:=t117 p5
 have:=@t147_end ρ _ _ (.int 30) _ _ _ _ _ _ _ p4 p1
 try simp only [smA,smW] at *
 grind
def F549:E:=(.imp (.and K55 (.and K147 (.and (.not K157) (.and (.not K158) (.and (.not K159) (.and K161 K150)))))) (.cmp .eql (.fn 1 (.pr K50 (.fn 6 (.pr (.fn 8 (.pr K58 (.int 2))) (.int 1))))) (.int 3)))
theorem G549:Tr F549:=ii7 fun ρ p0 p1 p2 p3 p4 p5 p6=>by
 have:=fun h0 h1=>(@t143_col ρ K58 _ _ _ _ (.fn 1 (.pr K50 (.fn 6 (.pr (.fn 8 (.pr K58 (.int 2))) (.int 1))))) p0 rfl h0 h1).2.2
 try simp only [smA,smW] at *
 grind
def F550:E:=(.imp K165 (.not (.cmp .lss K166 (.int 0))))
theorem G550:Tr F550:=ii5 fun ρ p0 p1 p2 p3 p4=>by
 have:=t117 p0
 try simp only [smA,smW] at *
 obtain ⟨a4,ea4,qa4⟩:=cs_i64 ((E.I ρ K58) + (1))
 try simp only [ea4] at *
 grind
def F551:E:=(.imp K145 (.fn 147 (.pr (.fn 1 (.pr K30 (.int 16))) (.pr (.fn 1 (.pr K30 (.int 17))) (.pr (.fn 1 (.pr K30 (.int 18))) (.pr (.fn 1 (.pr K30 (.int 19))) K33))))))
theorem G551:Tr F551:=ii3 fun ρ p0 p1 p2=>by
 have:=@z145 ρ K23 K30
 have:=@t147_1 ρ K23 (.int 0) K30 K25
 try simp only [smA,smW] at *
 grind
def F552:E:=(.imp K169 (.not (.cmp .lss K146 K166)))
theorem G552:Tr F552:=ii6 fun ρ p0 p1 p2 p3 p4 p5=>by
 have:=t117 p0
 try simp only [smA,smW] at *
 obtain ⟨a4,ea4,qa4⟩:=cs_i64 ((E.I ρ K58) + (1))
 try simp only [ea4] at *
 grind
def F553:E:=(.imp (.and K116 (.and K147 (.and (.not K157) (.and (.not K158) (.and (.not K159) K170))))) (.fn 147 (.pr K12 (.pr K52 (.pr K34 (.pr (.mn (.int 99) K133) K172))))))
theorem G553:Tr F553:=ii11 fun ρ p0 p1 p2 p3 p4 p5 p6 p7 p8 p9 p10=>by
 have:=t117 p10
 have:=@wrap_add ρ K124 (.int 1)
 have:=@wrap_add ρ K58 (.int 1)
 have:=@t147_rng ρ _ _ _ _ _ _ _ _ p5 p0
 have:=fun h0 h1=>(@t143_col ρ K58 _ _ _ _ (.fn 1 (.pr K50 (.fn 6 (.pr (.fn 8 (.pr K58 (.int 2))) (.int 1))))) p9 rfl h0 h1).2.2
 have:=@t147_step ρ _ _ K166 _ _ _ _ _ _ _ (.fn 1 (.pr K50 (.fn 6 (.pr (.fn 8 (.pr K58 (.int 2))) (.int 1))))) (.mn (.int 99) K133) p9 p5 rfl
 try simp only [smA,smW] at *
 grind
def F554:E:=(.imp (.and K116 (.and K147 (.and K159 K170))) (.fn 147 (.pr K12 (.pr K52 (.pr (.mn (.int 99) K39) K173)))))
theorem G554:Tr F554:=ii9 fun ρ p0 p1 p2 p3 p4 p5 p6 p7 p8=>by
 have:=t117 p8
 have:=@wrap_add ρ K34 (.int 1)
 have:=@wrap_add ρ K58 (.int 1)
 have:=@t147_rng ρ _ _ _ _ _ _ _ _ p3 p0
 have:=@t147_step ρ _ _ K166 _ _ _ _ _ _ _ (.fn 1 (.pr K50 (.fn 6 (.pr (.fn 8 (.pr K58 (.int 2))) (.int 1))))) (.mn (.int 99) K39) p7 p3 rfl
 try simp only [smA,smW] at *
 grind
def F555:E:=(.imp (.and K116 (.and K147 (.and K158 K170))) (.fn 147 (.pr K12 (.pr K174 K175))))
theorem G555:Tr F555:=ii9 fun ρ p0 p1 p2 p3 p4 p5 p6 p7 p8=>by
 have:=t117 p8
 have:=@wrap_add ρ K52 (.int 1)
 have:=@wrap_add ρ K58 (.int 1)
 have:=@t147_rng ρ _ _ _ _ _ _ _ _ p3 p0
 have:=@t147_step ρ _ _ K166 _ _ _ _ _ _ _ (.fn 1 (.pr K50 (.fn 6 (.pr (.fn 8 (.pr K58 (.int 2))) (.int 1))))) K174 p7 p3 rfl
 try simp only [smA,smW] at *
 grind
def F556:E:=(.imp (.and K116 (.and K147 (.and K157 K170))) (.fn 147 (.pr K176 (.pr K52 K175))))
theorem G556:Tr F556:=ii9 fun ρ p0 p1 p2 p3 p4 p5 p6 p7 p8=>by
 have:=t117 p8
 have:=@wrap_add ρ K12 (.int 1)
 have:=@wrap_add ρ K58 (.int 1)
 have:=@t147_rng ρ _ _ _ _ _ _ _ _ p3 p0
 have:=@t147_step ρ _ _ K166 _ _ _ _ _ _ _ (.fn 1 (.pr K50 (.fn 6 (.pr (.fn 8 (.pr K58 (.int 2))) (.int 1))))) K176 p7 p3 rfl
 try simp only [smA,smW] at *
 grind
def F557:E:=(.imp K165 (.cmp .lss (.fn 7 (.pr K146 K166)) (.fn 7 (.pr K146 K58))))
theorem G557:Tr F557:=ii5 fun ρ p0 p1 p2 p3 p4=>by
 have:=t117 p0
 try simp only [smA,smW] at *
 obtain ⟨a4,ea4,qa4⟩:=cs_i64 ((E.I ρ K58) + (1))
 try simp only [ea4] at *
 grind
def F558:E:=(.imp K169 (.not (.cmp .lss (.fn 7 (.pr K146 K166)) (.int 0))))
theorem G558:Tr F558:=ii6 fun ρ p0 p1 p2 p3 p4 p5=>by
 have:=t117 p0
 try simp only [smA,smW] at *
 obtain ⟨a4,ea4,qa4⟩:=cs_i64 ((E.I ρ K58) + (1))
 try simp only [ea4] at *
 grind
namespace p37
def facts:List E:=[F544,F517,F545,F518,F519,F515,F462,F516,F520,F521,F522,F546,F547,F548,F549,F523,F550,F551,F552,F553,F554,F555,F556,F557,F558]
theorem facts_ok:∀ e∈facts,Tr e:=(ac G544 (ac G517 (ac G545 (ac G518 (ac G519 (ac G515 (ac G462 (ac G516 (ac G520 (ac G521 (ac G522 (ac G546 (ac G547 (ac G548 (ac G549 (ac G523 (ac G550 (ac G551 (ac G552 (ac G553 (ac G554 (ac G555 (ac G556 (ac G557 (ac G558 all_nil)))))))))))))))))))))))))
end p37
theorem spec37_0:NatOk Try.prog (specNat (spMo)) :=
 spec_of_check good (facts:=p37.facts) p37.facts_ok (anns:=annMo) (plainAnns_ok _ (by kernel_rfl)) (nats:=natl38) natl38_ok (n:=3000) (by kernel_rfl)
def natl39:List Nat1:=specNat (spMo)::natl38
theorem natl39_ok:∀ x∈natl39,NatOk Try.prog x:=by
 intro x hx
 rcases List.mem_cons.1 hx with rfl | hx
 ·exact spec37_0
 exact natl38_ok x hx

end
end Go.Proofs.Ytnnbmcfabojjjaa.paySources
