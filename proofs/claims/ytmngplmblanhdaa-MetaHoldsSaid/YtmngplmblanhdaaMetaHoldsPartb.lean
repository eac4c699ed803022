/-
  MetaHolds: contracts of functions, part 2.
-/
import Derived.Test.YtmngplmblanhdaaRows
import Derived.Test.YtmngplmblanhdaaNat
import Derived.WalkKit
import Derived.ProofKit
import Derived.OpenShut
import Derived.ChangeOld
import Derived.Below
import Derived.KernelRfl
import Derived.Lib.SmallJoins
import Derived.Test.YtmngplmblanhdaaTheory
import Derived.Test.YtmngplmblanhdaaMetaHoldsParta
namespace Go.Proofs.Ytmngplmblanhdaa.metaHolds
open Go.ChangeShapes Go.WideShapes Go.ChangeAt Go.RowKit
open Go.SX
set_option linter.unusedVariables false
set_option linter.unusedSimpArgs false
set_option maxRecDepth 100000
noncomputable section
abbrev J0:E:=.var 4
abbrev J1:E:=.var 1
abbrev J2:E:=.cmp .lss J0 J1
abbrev J3:E:=.var 3
abbrev J4:E:=.cmp .lss J3 J1
abbrev J5:E:=.not (.cmp .lss J3 (.int 0))
abbrev J6:E:=.var 0
abbrev J7:E:=.fn 101 (.pr J6 J1)
abbrev J8:E:=.not (.cmp .lss J0 (.int 0))
abbrev J9:E:=.var 2
abbrev J10:E:=.cmp .lss (.int 1000) J9
abbrev J11:E:=.not J10
abbrev J12:E:=.pr J6 J9
abbrev J13:E:=.fn 117 J12
abbrev J14:E:=.cmp .eql J3 J0
abbrev J15:E:=.not J14
abbrev J16:E:=.ar .add .i64 (.fn 1 (.pr (.fn 1 (.pr J6 J3)) J0)) (.fn 1 (.pr (.fn 1 (.pr J6 J0)) J3))
abbrev J17:E:=.cmp .eql J16 (.int 0)
abbrev J18:E:=.cmp .eql (.fn 105 (.pr J6 (.pr J3 J0))) (.int 500)
abbrev J19:E:=.not J17
abbrev J20:E:=.and J15 J19
abbrev J21:E:=.and J7 J20
abbrev J22:E:=.and J13 J21
abbrev J23:E:=.and J11 J22
abbrev J24:E:=.and J5 J23
abbrev J25:E:=.and J4 J24
abbrev J26:E:=.and J8 J25
abbrev J27:E:=.and J2 J26
abbrev J28:E:=.ar .mul .i64 (.int 1000) (.fn 1 (.pr (.fn 1 (.pr J6 J3)) J0))
abbrev J29:E:=.fn 119 (.pr J6 (.pr J3 J0))
abbrev J30:E:=.var 5
abbrev J31:E:=.cmp .lss J30 J1
abbrev J32:E:=.cmp .lss J30 (.int 0)
abbrev J33:E:=.not J32
abbrev J34:E:=.cmp .eql J0 (.fn 122 (.pr J6 (.pr J3 J30)))
abbrev J35:E:=.not (.cmp .lss (.int 20) J1)
abbrev J36:E:=.and J5 J35
abbrev J37:E:=.and J33 (.and J34 J36)
abbrev J38:E:=.ar .add .i64 J30 (.int 1)
abbrev J39:E:=.not (.cmp .lss J1 J30)
abbrev J40:E:=.and J13 J7
abbrev J41:E:=.and J5 J40
abbrev J42:E:=.and J4 J41
abbrev J43:E:=.and J33 J35
abbrev J44:E:=.and J31 J43
abbrev J45:E:=.and J39 J43
abbrev J46:E:=.and J31 J45
abbrev J47:E:=.cmp .lss (.fn 7 (.pr J1 J38)) (.fn 7 (.pr J1 J30))
abbrev J48:E:=.cmp .lss (.fn 7 (.pr J1 J38)) (.int 0)
abbrev J49:E:=.not J48
abbrev J50:E:=.ar .add .i64 J3 (.int 1)
abbrev J51:E:=.pr J6 (.pr J1 J1)
abbrev J52:E:=.fn 123 J51
abbrev J53:E:=.not (.cmp .lss J1 J50)
abbrev J54:E:=.pr J6 (.pr J1 J3)
abbrev J55:E:=.not J52
abbrev J56:E:=.cmp .lss J3 J0
abbrev J57:E:=.and J56 J36
abbrev J58:E:=.and J2 J57
abbrev J59:E:=.cmp .lss J1 J0
abbrev J60:E:=.not J59
abbrev J61:E:=.and J60 J57
abbrev J62:E:=.fn 124 (.pr J6 (.pr J1 (.pr J3 J0)))
abbrev J63:E:=.ar .add .i64 J0 (.int 1)
abbrev J64:E:=.cmp .lss J3 J30
abbrev J65:E:=.and J64 J36
abbrev J66:E:=.and J31 J65
abbrev J67:E:=.and (.not J31) (.and J39 (.and J2 J61))
abbrev J68:E:=.iff (.var 6) J29
abbrev J69:E:=.var 7
abbrev J70:E:=.pr J0 J30
abbrev J71:E:=.iff J69 (.fn 119 (.pr J6 J70))
abbrev J72:E:=.var 8
abbrev J73:E:=.iff J72 (.fn 119 (.pr J6 (.pr J30 J3)))
abbrev J74:E:=.and J39 J65
abbrev J75:E:=.and J31 J74
abbrev J76:E:=.pr J3 J70
abbrev J77:E:=.pr J6 J76
abbrev J78:E:=.fn 125 J77
abbrev J79:E:=.and J78 J65
abbrev J80:E:=.pr J3 (.pr J0 J38)
abbrev J81:E:=.pr J6 J80
abbrev J82:E:=.fn 125 J81
abbrev J83:E:=.cmp .lss (.fn 7 (.pr J1 J63)) (.fn 7 (.pr J1 J0))
abbrev J84:E:=.cmp .lss (.fn 7 (.pr J1 J63)) (.int 0)
abbrev J85:E:=.not J84
abbrev J86:E:=.cmp .eql J3 (.fn 1 (.pr J6 J0))
abbrev J87:E:=.cmp .eql J1 (.fn 0 J6)
abbrev J88:E:=.cmp .lss (.int 1000) J1
abbrev J89:E:=.not J88
abbrev J90:E:=.and J8 J89
abbrev J91:E:=.and J2 J90
abbrev J92:E:=.not (.fn 133 (.pr J6 (.pr J0 J3)))
abbrev J93:E:=.and J60 J90
abbrev J94:E:=.and J2 J93
abbrev J95:E:=.cmp .lss J69 J1
abbrev J96:E:=.var 11
abbrev J97:E:=.fn 126 (.pr J6 (.pr J1 (.pr J3 (.pr J72 (.pr J69 J96)))))
abbrev J98:E:=.var 9
abbrev J99:E:=.cmp .lss J69 J98
abbrev J100:E:=.cmp .lss J69 (.int 0)
abbrev J101:E:=.not J100
abbrev J102:E:=.cmp .eql J98 (.fn 0 J72)
abbrev J103:E:=.and J101 J102
abbrev J104:E:=.and J99 J103
abbrev J105:E:=.and J97 J104
abbrev J106:E:=.and J101 J35
abbrev J107:E:=.and J95 J106
abbrev J108:E:=.ar .add .i64 J69 (.int 1)
abbrev J109:E:=.and (.not (.cmp .lss J1 J98)) J35
abbrev J110:E:=.cmp .lss J96 J1
abbrev J111:E:=.cmp .lss J96 (.int 0)
abbrev J112:E:=.not J111
abbrev J113:E:=.and J112 J35
abbrev J114:E:=.and J110 J113
abbrev J115:E:=.ar .add .i64 J96 (.int 1)
abbrev J116:E:=.and J101 (.and J102 J35)
abbrev J117:E:=.and J99 J116
abbrev J118:E:=.not (.cmp .lss J1 J96)
abbrev J119:E:=.and J118 J113
abbrev J120:E:=.and J110 J119
abbrev J121:E:=.iff (.var 12) (.fn 119 (.pr J6 (.pr (.fn 1 (.pr J72 J69)) J96)))
abbrev J122:E:=.and J97 J113
abbrev J123:E:=.pr J1 (.pr J3 (.pr J72 (.pr J69 J115)))
abbrev J124:E:=.pr J6 J123
abbrev J125:E:=.fn 126 J124
abbrev J126:E:=.fn 132 (.pr J72 J96)
abbrev J127:E:=.iff (.var 13) J126
def F64:E:=(.imp (.and J2 (.and J4 (.and J5 J7))) (.cmp .lss J0 (.fn 0 (.fn 1 (.pr J6 J3)))))
theorem G64:Tr F64:=ii4 fun ρ p0 p1 p2 p3=>by
 have:=@t101_row ρ _ J3 _ p3
 try simp only [smA,smW] at *
 grind
def F65:E:=(.imp (.and J2 (.and J8 (.and J4 J7))) (.cmp .lss J3 (.fn 0 (.fn 1 (.pr J6 J0)))))
theorem G65:Tr F65:=ii4 fun ρ p0 p1 p2 p3=>by
 have:=@t101_row ρ _ J0 _ p3
 try simp only [smA,smW] at *
 grind
def F66:E:=(.imp (.and J2 (.and J8 (.and J4 (.and J5 (.and J11 (.and J13 (.and J7 (.and J15 J17)))))))) J18)
theorem G66:Tr F66:=ii9 fun ρ p0 p1 p2 p3 p4 p5 p6 p7 p8=>by
 have:=@t117_at ρ _ J3 J0 _ _ p5 p6
 have:=@t117_at ρ _ J0 J3 _ _ p5 p6
 have:=@t105_500 ρ J6 J3 J0
 try simp only [smA,smW] at *
 obtain ⟨a8,ea8,qa8⟩:=cs_i64 ((E.I ρ (.fn 1 (.pr (.fn 1 (.pr J6 J3)) J0))) + (E.I ρ (.fn 1 (.pr (.fn 1 (.pr J6 J0)) J3))))
 try simp only [ea8] at *
 grind
def F67:E:=(.imp J27 (.cmp .eql (.ar .quo .i64 J28 J16) (.fn 105 (.pr J6 (.pr J3 J0)))))
theorem G67:Tr F67:=ii9 fun ρ p0 p1 p2 p3 p4 p5 p6 p7 p8=>by
 have:=@t117_at ρ _ J3 J0 _ _ p5 p6
 have:=@t117_at ρ _ J0 J3 _ _ p5 p6
 have:=@t105_quo ρ J6 J3 J0
 try simp only [smA,smW] at *
 obtain ⟨a8,ea8,qa8⟩:=cs_i64 ((E.I ρ (.fn 1 (.pr (.fn 1 (.pr J6 J3)) J0))) + (E.I ρ (.fn 1 (.pr (.fn 1 (.pr J6 J0)) J3))))
 try simp only [ea8] at *
 grind
def F68:E:=(.imp J14 J18)
theorem G68:Tr F68:=ii1 fun ρ p0=>by
 have:=@t105_500 ρ J6 J3 J0
 try simp only [smA,smW] at *
 grind
def F69:E:=(.imp J27 (.not (.cmp .lss (.ar .quo .i64 J28 J16) (.int 0))))
theorem G69:Tr F69:=ii9 fun ρ p0 p1 p2 p3 p4 p5 p6 p7 p8=>by
 have:=@t117_at ρ _ J3 J0 _ _ p5 p6
 have:=@t117_at ρ _ J0 J3 _ _ p5 p6
 have:=@t105_quo ρ J6 J3 J0
 try simp only [smA,smW] at *
 obtain ⟨a7,ea7,qa7⟩:=cs_i64 ((E.I ρ (.fn 1 (.pr (.fn 1 (.pr J6 J3)) J0))) + (E.I ρ (.fn 1 (.pr (.fn 1 (.pr J6 J0)) J3))))
 try simp only [ea7] at *
 grind
def F70:E:=(.imp J27 (.not (.cmp .lss (.int 1000) (.ar .quo .i64 J28 J16))))
theorem G70:Tr F70:=ii9 fun ρ p0 p1 p2 p3 p4 p5 p6 p7 p8=>by
 have:=@t117_at ρ _ J3 J0 _ _ p5 p6
 have:=@t117_at ρ _ J0 J3 _ _ p5 p6
 have:=@t105_quo ρ J6 J3 J0
 try simp only [smA,smW] at *
 obtain ⟨a7,ea7,qa7⟩:=cs_i64 ((E.I ρ (.fn 1 (.pr (.fn 1 (.pr J6 J3)) J0))) + (E.I ρ (.fn 1 (.pr (.fn 1 (.pr J6 J0)) J3))))
 try simp only [ea7] at *
 grind
namespace p3
def facts:List E:=[F64,F65,F66,F67,F68,F69,F70]
theorem facts_ok:∀ e∈facts,Tr e:=(ac G64 (ac G65 (ac G66 (ac G67 (ac G68 (ac G69 (ac G70 all_nil)))))))
end p3
theorem spec3_0:NatOk Try.prog (specNat (spRate)) :=
 spec_of_check good (facts:=p3.facts) p3.facts_ok (anns:=[]) (plainAnns_ok _ (by kernel_rfl)) (nats:=natl4) natl4_ok (n:=3000) (by kernel_rfl)
def natl5:List Nat1:=specNat (spRate)::natl4
theorem natl5_ok:∀ x∈natl5,NatOk Try.prog x:=by
 intro x hx
 rcases List.mem_cons.1 hx with rfl | hx
 ·exact spec3_0
 exact natl4_ok x hx

def F71:E:=(.iff (.cmp .lss (.fn 1 (.pr (.fn 1 (.pr J6 J0)) J3)) (.fn 1 (.pr (.fn 1 (.pr J6 J3)) J0))) J29)
theorem G71:Tr F71:=fun ρ=>by
 unfold F71
 have:=@t119 ρ J6 J3 J0
 try simp only [smA,smW] at *
 grind
namespace p4
def facts:List E:=[F64,F65,F71]
theorem facts_ok:∀ e∈facts,Tr e:=(ac G64 (ac G65 (ac G71 all_nil)))
end p4
theorem spec4_0:NatOk Try.prog (specNat (spBt)) :=
 spec_of_check good (facts:=p4.facts) p4.facts_ok (anns:=[]) (plainAnns_ok _ (by kernel_rfl)) (nats:=natl5) natl5_ok (n:=3000) (by kernel_rfl)
def natl6:List Nat1:=specNat (spBt)::natl5
theorem natl6_ok:∀ x∈natl6,NatOk Try.prog x:=by
 intro x hx
 rcases List.mem_cons.1 hx with rfl | hx
 ·exact spec4_0
 exact natl5_ok x hx

def F72:E:=(.cmp .eql (.fn 122 (.pr J6 (.pr J3 (.int 0)))) (.int 1000))
theorem G72:Tr F72:=fun ρ=>by
 unfold F72
 have:=@t122_zero ρ J6 J3 (.int 0)
 try simp only [smA,smW] at *
 grind
def F73:E:=(.imp (.and J31 (.and (.not (.cmp .eql J30 J3)) (.and (.cmp .eql (.var 6) (.fn 105 (.pr J6 (.pr J3 J30)))) J37))) (.cmp .eql (.mn J0 (.var 6)) (.fn 122 (.pr J6 (.pr J3 J38)))))
theorem G73:Tr F73:=ii7 fun ρ p0 p1 p2 p3 p4 p5 p6=>by
 have:=@wrap_add ρ J30 (.int 1)
 have:=@t122_step ρ J6 J3 J30 J38
 try simp only [smA,smW] at *
 grind
def F74:E:=(.imp (.and J31 (.and (.cmp .eql J30 J3) J37)) (.cmp .eql J0 (.fn 122 (.pr J6 (.pr J3 J38)))))
theorem G74:Tr F74:=ii6 fun ρ p0 p1 p2 p3 p4 p5=>by
 have:=@wrap_add ρ J30 (.int 1)
 have:=@t122_step ρ J6 J3 J30 J38
 try simp only [smA,smW] at *
 grind
def F75:E:=(.imp (.and (.not J31) (.and J39 J34)) (.cmp .eql J0 (.fn 122 (.pr J6 (.pr J3 J1)))))
theorem G75:Tr F75:=ii3 fun ρ p0 p1 p2=>by
 have:=@t122_congr ρ J6 J3 J30 J1
 try simp only [smA,smW] at *
 grind
def F76:E:=(.imp (.and J31 (.and (.not (.cmp .lss (.var 6) (.int 0))) (.and J33 (.and J8 J42)))) (.not (.cmp .lss (.mn J0 (.var 6)) (.int 0))))
theorem G76:Tr F76:=ii8 fun ρ p0 p1 p2 p3 p4 p5 p6 p7=>by
 have:=@t105_sum ρ _ J3 J30 _ _ p6 p7
 try simp only [smA,smW] at *
 grind
def F77:E:=(.imp J44 (.not (.cmp .lss J38 (.int 0))))
theorem G77:Tr F77:=ii3 fun ρ p0 p1 p2=>by
 try simp only [smA,smW] at *
 obtain ⟨a7,ea7,qa7⟩:=cs_i64 ((E.I ρ J30) + (1))
 try simp only [ea7] at *
 grind
def F78:E:=(.imp (.and J31 (.and J33 (.and (.not (.cmp .lss (.int 1000) J0)) J42))) (.not (.cmp .lss (.int 1000) (.mn J0 (.var 6)))))
theorem G78:Tr F78:=ii7 fun ρ p0 p1 p2 p3 p4 p5 p6=>by
 have:=@t105_sum ρ _ J3 J30 _ _ p5 p6
 try simp only [smA,smW] at *
 grind
def F79:E:=(.imp J46 (.not (.cmp .lss J1 J38)))
theorem G79:Tr F79:=ii4 fun ρ p0 p1 p2 p3=>by
 try simp only [smA,smW] at *
 obtain ⟨a7,ea7,qa7⟩:=cs_i64 ((E.I ρ J30) + (1))
 try simp only [ea7] at *
 grind
def F80:E:=(.imp J44 J47)
theorem G80:Tr F80:=ii3 fun ρ p0 p1 p2=>by
 try simp only [smA,smW] at *
 obtain ⟨a7,ea7,qa7⟩:=cs_i64 ((E.I ρ J30) + (1))
 try simp only [ea7] at *
 grind
def F81:E:=(.imp J46 J49)
theorem G81:Tr F81:=ii4 fun ρ p0 p1 p2 p3=>by
 try simp only [smA,smW] at *
 obtain ⟨a7,ea7,qa7⟩:=cs_i64 ((E.I ρ J30) + (1))
 try simp only [ea7] at *
 grind
namespace p5
def facts:List E:=[F72,F73,F74,F75,F76,F77,F78,F79,F80,F81]
theorem facts_ok:∀ e∈facts,Tr e:=(ac G72 (ac G73 (ac G74 (ac G75 (ac G76 (ac G77 (ac G78 (ac G79 (ac G80 (ac G81 all_nil))))))))))
end p5
theorem spec5_0:NatOk Try.prog (specNat (spFl)) :=
 spec_of_check good (facts:=p5.facts) p5.facts_ok (anns:=annFl) (plainAnns_ok _ (by kernel_rfl)) (nats:=natl6) natl6_ok (n:=3000) (by kernel_rfl)
def natl7:List Nat1:=specNat (spFl)::natl6
theorem natl7_ok:∀ x∈natl7,NatOk Try.prog x:=by
 intro x hx
 rcases List.mem_cons.1 hx with rfl | hx
 ·exact spec5_0
 exact natl6_ok x hx

def F82:E:=(.fn 123 (.pr J6 (.pr J1 (.int 0))))
theorem G82:Tr F82:=fun ρ=>by
 unfold F82
 have:=@t123_zero ρ J6 J1 (.int 0)
 try simp only [smA,smW] at *
 grind
def F83:E:=(.imp (.and J4 J36) (.cmp .lss J3 J50))
theorem G83:Tr F83:=ii3 fun ρ p0 p1 p2=>by
 try simp only [smA,smW] at *
 obtain ⟨a4,ea4,qa4⟩:=cs_i64 ((E.I ρ J3) + (1))
 try simp only [ea4] at *
 grind
def F84:E:=(.imp (.not (.cmp .lss J1 (.int 2))) (.imp J52 (.bool true)))
theorem G84:Tr F84:=ii1 fun ρ p0=>by
 try simp only [smA,smW] at *
 grind
def F85:E:=(.imp (.and (.not (.cmp .lss J1 J3)) (.and J4 J36)) J53)
theorem G85:Tr F85:=ii4 fun ρ p0 p1 p2 p3=>by
 try simp only [smA,smW] at *
 obtain ⟨a4,ea4,qa4⟩:=cs_i64 ((E.I ρ J3) + (1))
 try simp only [ea4] at *
 grind
def F86:E:=(.imp (.and (.not (.cmp .lss J1 J3)) (.and (.not J4) (.fn 123 J54))) (.imp J55 (.bool false)))
theorem G86:Tr F86:=ii3 fun ρ p0 p1 p2=>by
 have:=@t123_congr ρ _ _ _ J1 p2
 try simp only [smA,smW] at *
 grind
def F87:E:=(.imp (.and J4 J36) (.fn 124 (.pr J6 (.pr J1 (.pr J3 J50)))))
theorem G87:Tr F87:=ii3 fun ρ p0 p1 p2=>by
 have:=@wrap_add ρ J3 (.int 1)
 have:=@t124_init ρ J6 J3 J1 J50
 try simp only [smA,smW] at *
 grind
def F88:E:=(.imp J58 (.cmp .lss J3 J50))
theorem G88:Tr F88:=ii4 fun ρ p0 p1 p2 p3=>by
 try simp only [smA,smW] at *
 obtain ⟨a5,ea5,qa5⟩:=cs_i64 ((E.I ρ J3) + (1))
 try simp only [ea5] at *
 grind
def F89:E:=(.imp J61 (.not (.cmp .lss J50 (.int 0))))
theorem G89:Tr F89:=ii4 fun ρ p0 p1 p2 p3=>by
 try simp only [smA,smW] at *
 obtain ⟨a5,ea5,qa5⟩:=cs_i64 ((E.I ρ J3) + (1))
 try simp only [ea5] at *
 grind
def F90:E:=(.imp J58 J53)
theorem G90:Tr F90:=ii4 fun ρ p0 p1 p2 p3=>by
 try simp only [smA,smW] at *
 obtain ⟨a5,ea5,qa5⟩:=cs_i64 ((E.I ρ J3) + (1))
 try simp only [ea5] at *
 grind
def F91:E:=(.imp (.and (.not J2) (.and J62 (.and J60 (.and J56 (.and (.fn 123 J54) J36))))) (.fn 123 (.pr J6 (.pr J1 J50))))
theorem G91:Tr F91:=ii7 fun ρ p0 p1 p2 p3 p4 p5 p6=>by
 have:=@wrap_add ρ J3 (.int 1)
 have:=fun e1=>@t123_step ρ _ _ _ J50 _ p4 p1 e1
 try simp only [smA,smW] at *
 grind
def F92:E:=(.imp J58 (.fn 125 (.pr J6 (.pr J3 (.pr J0 J50)))))
theorem G92:Tr F92:=ii4 fun ρ p0 p1 p2 p3=>by
 have:=@wrap_add ρ J3 (.int 1)
 have:=@t125_init ρ J6 J3 J0 J50
 try simp only [smA,smW] at *
 grind
def F93:E:=(.imp (.and (.not J2) J61) J53)
theorem G93:Tr F93:=ii5 fun ρ p0 p1 p2 p3 p4=>by
 try simp only [smA,smW] at *
 obtain ⟨a5,ea5,qa5⟩:=cs_i64 ((E.I ρ J3) + (1))
 try simp only [ea5] at *
 grind
def F94:E:=(.imp (.and J56 J5) J8)
theorem G94:Tr F94:=ii2 fun ρ p0 p1=>by
 try simp only [smA,smW] at *
 grind
def F95:E:=(.imp J58 (.cmp .lss J3 J63))
theorem G95:Tr F95:=ii4 fun ρ p0 p1 p2 p3=>by
 try simp only [smA,smW] at *
 obtain ⟨a6,ea6,qa6⟩:=cs_i64 ((E.I ρ J0) + (1))
 try simp only [ea6] at *
 grind
def F96:E:=(.imp J61 (.cmp .lss (.fn 7 (.pr J1 J50)) (.fn 7 (.pr J1 J3))))
theorem G96:Tr F96:=ii4 fun ρ p0 p1 p2 p3=>by
 try simp only [smA,smW] at *
 obtain ⟨a5,ea5,qa5⟩:=cs_i64 ((E.I ρ J3) + (1))
 try simp only [ea5] at *
 grind
def F97:E:=(.imp (.and J64 J5) J33)
theorem G97:Tr F97:=ii2 fun ρ p0 p1=>by
 try simp only [smA,smW] at *
 grind
def F98:E:=(.imp J66 (.cmp .lss J3 J38))
theorem G98:Tr F98:=ii4 fun ρ p0 p1 p2 p3=>by
 try simp only [smA,smW] at *
 obtain ⟨a6,ea6,qa6⟩:=cs_i64 ((E.I ρ J30) + (1))
 try simp only [ea6] at *
 grind
def F99:E:=(.imp J67 (.not (.cmp .lss J1 J63)))
theorem G99:Tr F99:=ii7 fun ρ p0 p1 p2 p3 p4 p5 p6=>by
 try simp only [smA,smW] at *
 obtain ⟨a6,ea6,qa6⟩:=cs_i64 ((E.I ρ J0) + (1))
 try simp only [ea6] at *
 grind
def F100:E:=(.imp (.and (.not J2) J61) (.not (.cmp .lss (.fn 7 (.pr J1 J50)) (.int 0))))
theorem G100:Tr F100:=ii5 fun ρ p0 p1 p2 p3 p4=>by
 try simp only [smA,smW] at *
 obtain ⟨a5,ea5,qa5⟩:=cs_i64 ((E.I ρ J3) + (1))
 try simp only [ea5] at *
 grind
def F101:E:=(.imp (.and J31 (.and J68 (.and (.var 6) (.and J71 (.and J69 (.and J73 (.and J72 (.and J64 (.and J2 (.and J56 J5)))))))))) (.imp J52 (.bool false)))
theorem G101:Tr F101:=ii11 fun ρ p0 p1 p2 p3 p4 p5 p6 p7 p8 p9 p10=>by
 have:=@t123_not ρ J6 J3 J0 J1 J30
 try simp only [smA,smW] at *
 grind
def F102:E:=(.imp J75 (.not (.cmp .lss J1 J38)))
theorem G102:Tr F102:=ii5 fun ρ p0 p1 p2 p3 p4=>by
 try simp only [smA,smW] at *
 obtain ⟨a6,ea6,qa6⟩:=cs_i64 ((E.I ρ J30) + (1))
 try simp only [ea6] at *
 grind
def F103:E:=(.imp (.and (.not J31) (.and J78 (.and J39 (.and J2 (.and J62 J57))))) (.fn 124 (.pr J6 (.pr J1 (.pr J3 J63)))))
theorem G103:Tr F103:=ii8 fun ρ p0 p1 p2 p3 p4 p5 p6 p7=>by
 have:=@wrap_add ρ J0 (.int 1)
 have:=fun e1=>@t124_step ρ _ _ _ _ J63 _ p4 p1 e1
 try simp only [smA,smW] at *
 grind
def F104:E:=(.imp (.not (.cmp .lss J1 (.int 2))) (.imp J55 (.bool true)))
theorem G104:Tr F104:=ii1 fun ρ p0=>by
 try simp only [smA,smW] at *
 grind
def F105:E:=(.imp (.and J31 (.and J68 (.and (.not (.var 6)) J79))) J82)
theorem G105:Tr F105:=ii7 fun ρ p0 p1 p2 p3 p4 p5 p6=>by
 have:=@wrap_add ρ J30 (.int 1)
 have:=@t125_step ρ _ _ _ _ J38 p3
 try simp only [smA,smW] at *
 grind
def F106:E:=(.imp J58 J83)
theorem G106:Tr F106:=ii4 fun ρ p0 p1 p2 p3=>by
 try simp only [smA,smW] at *
 obtain ⟨a6,ea6,qa6⟩:=cs_i64 ((E.I ρ J0) + (1))
 try simp only [ea6] at *
 grind
def F107:E:=(.imp (.and J31 (.and J73 (.and (.not J72) J79))) J82)
theorem G107:Tr F107:=ii7 fun ρ p0 p1 p2 p3 p4 p5 p6=>by
 have:=@wrap_add ρ J30 (.int 1)
 have:=@t125_step ρ _ _ _ _ J38 p3
 try simp only [smA,smW] at *
 grind
def F108:E:=(.imp (.and J31 (.and J71 (.and (.not J69) J79))) J82)
theorem G108:Tr F108:=ii7 fun ρ p0 p1 p2 p3 p4 p5 p6=>by
 have:=@wrap_add ρ J30 (.int 1)
 have:=@t125_step ρ _ _ _ _ J38 p3
 try simp only [smA,smW] at *
 grind
def F109:E:=(.imp J66 J47)
theorem G109:Tr F109:=ii4 fun ρ p0 p1 p2 p3=>by
 try simp only [smA,smW] at *
 obtain ⟨a6,ea6,qa6⟩:=cs_i64 ((E.I ρ J30) + (1))
 try simp only [ea6] at *
 grind
def F110:E:=(.imp J67 J85)
theorem G110:Tr F110:=ii7 fun ρ p0 p1 p2 p3 p4 p5 p6=>by
 try simp only [smA,smW] at *
 obtain ⟨a6,ea6,qa6⟩:=cs_i64 ((E.I ρ J0) + (1))
 try simp only [ea6] at *
 grind
def F111:E:=(.imp J75 J49)
theorem G111:Tr F111:=ii5 fun ρ p0 p1 p2 p3 p4=>by
 try simp only [smA,smW] at *
 obtain ⟨a6,ea6,qa6⟩:=cs_i64 ((E.I ρ J30) + (1))
 try simp only [ea6] at *
 grind
namespace p6
def facts:List E:=[F82,F83,F84,F85,F86,F87,F88,F89,F90,F91,F92,F93,F94,F95,F96,F97,F98,F99,F100,F101,F102,F103,F104,F105,F106,F107,F108,F109,F110,F111]
theorem facts_ok:∀ e∈facts,Tr e:=(ac G82 (ac G83 (ac G84 (ac G85 (ac G86 (ac G87 (ac G88 (ac G89 (ac G90 (ac G91 (ac G92 (ac G93 (ac G94 (ac G95 (ac G96 (ac G97 (ac G98 (ac G99 (ac G100 (ac G101 (ac G102 (ac G103 (ac G104 (ac G105 (ac G106 (ac G107 (ac G108 (ac G109 (ac G110 (ac G111 all_nil))))))))))))))))))))))))))))))
end p6
theorem spec6_0:NatOk Try.prog (specNat (spCy)) :=
 spec_of_check good (facts:=p6.facts) p6.facts_ok (anns:=annCy) (plainAnns_ok _ (by kernel_rfl)) (nats:=natl7) natl7_ok (n:=3000) (by kernel_rfl)
def natl8:List Nat1:=specNat (spCy)::natl7
theorem natl8_ok:∀ x∈natl8,NatOk Try.prog x:=by
 intro x hx
 rcases List.mem_cons.1 hx with rfl | hx
 ·exact spec6_0
 exact natl7_ok x hx

def F112:E:=(.not (.fn 133 (.pr J6 (.pr (.int 0) J3))))
theorem G112:Tr F112:=fun ρ=>by
 unfold F112
 have:=@t133_zero ρ J6 (.int 0) J3
 try simp only [smA,smW] at *
 grind
def F113:E:=(.imp (.and J2 (.and J86 (.and J8 J87))) (.iff J8 (.fn 132 (.pr J6 J3))))
theorem G113:Tr F113:=ii4 fun ρ p0 p1 p2 p3=>by
 have:=@t132_at ρ J6 J0 J3
 try simp only [smA,smW] at *
 grind
def F114:E:=(.imp J91 (.not (.cmp .lss J63 (.int 0))))
theorem G114:Tr F114:=ii3 fun ρ p0 p1 p2=>by
 try simp only [smA,smW] at *
 obtain ⟨a6,ea6,qa6⟩:=cs_i64 ((E.I ρ J0) + (1))
 try simp only [ea6] at *
 grind
def F115:E:=(.imp (.and (.not J2) (.and J92 J87)) (.iff (.bool false) (.fn 132 (.pr J6 J3))))
theorem G115:Tr F115:=ii3 fun ρ p0 p1 p2=>by
 have:=@t132_end ρ J6 J0 J3
 try simp only [smA,smW] at *
 grind
def F116:E:=(.imp J94 (.not (.cmp .lss J1 J63)))
theorem G116:Tr F116:=ii4 fun ρ p0 p1 p2 p3=>by
 try simp only [smA,smW] at *
 obtain ⟨a6,ea6,qa6⟩:=cs_i64 ((E.I ρ J0) + (1))
 try simp only [ea6] at *
 grind
def F117:E:=(.imp (.and J2 (.and (.not J86) (.and J92 (.and J8 (.and J89 J87))))) (.not (.fn 133 (.pr J6 (.pr J63 J3)))))
theorem G117:Tr F117:=ii6 fun ρ p0 p1 p2 p3 p4 p5=>by
 have:=@wrap_add ρ J0 (.int 1)
 have:=@t133_step ρ J6 J0 J3 J63
 try simp only [smA,smW] at *
 grind
def F118:E:=(.imp J91 J83)
theorem G118:Tr F118:=ii3 fun ρ p0 p1 p2=>by
 try simp only [smA,smW] at *
 obtain ⟨a6,ea6,qa6⟩:=cs_i64 ((E.I ρ J0) + (1))
 try simp only [ea6] at *
 grind
def F119:E:=(.imp J94 J85)
theorem G119:Tr F119:=ii4 fun ρ p0 p1 p2 p3=>by
 try simp only [smA,smW] at *
 obtain ⟨a6,ea6,qa6⟩:=cs_i64 ((E.I ρ J0) + (1))
 try simp only [ea6] at *
 grind
namespace p7
def facts:List E:=[F112,F113,F114,F115,F116,F117,F118,F119]
theorem facts_ok:∀ e∈facts,Tr e:=(ac G112 (ac G113 (ac G114 (ac G115 (ac G116 (ac G117 (ac G118 (ac G119 all_nil))))))))
end p7
theorem spec7_0:NatOk Try.prog (specNat (spIx)) :=
 spec_of_check good (facts:=p7.facts) p7.facts_ok (anns:=annIx) (plainAnns_ok _ (by kernel_rfl)) (nats:=natl8) natl8_ok (n:=3000) (by kernel_rfl)
def natl9:List Nat1:=specNat (spIx)::natl8
theorem natl9_ok:∀ x∈natl9,NatOk Try.prog x:=by
 intro x hx
 rcases List.mem_cons.1 hx with rfl | hx
 ·exact spec7_0
 exact natl8_ok x hx

namespace p8
def facts:List E:=[]
theorem facts_ok:∀ e∈facts,∀ ρ:Env,E.B ρ e=true:=all_nil
end p8
theorem spec8_0:NatOk Try.prog (specNat (spCt)) :=
 spec_of_check good (facts:=p8.facts) p8.facts_ok (anns:=[]) (plainAnns_ok _ (by kernel_rfl)) (nats:=natl9) natl9_ok (n:=3000) (by kernel_rfl)
def natl10:List Nat1:=specNat (spCt)::natl9
theorem natl10_ok:∀ x∈natl10,NatOk Try.prog x:=by
 intro x hx
 rcases List.mem_cons.1 hx with rfl | hx
 ·exact spec8_0
 exact natl9_ok x hx

def F120:E:=(.imp (.and J4 J5) (.fn 126 (.pr J6 (.pr J1 (.pr J3 (.pr (.fn 23 (.pr J3 (.fn 10 (.int 0)))) (.pr (.int 0) (.int 0))))))))
theorem G120:Tr F120:=ii2 fun ρ p0 p1=>by
 have:=@t126_init ρ (.int 0) J6 J3 (.int 0) J1 (.int 0)
 try simp only [smA,smW] at *
 grind
def F121:E:=(.imp (.and (.cmp .lss J69 J30) J39) J95)
theorem G121:Tr F121:=ii2 fun ρ p0 p1=>by
 try simp only [smA,smW] at *
 grind
def F122:E:=(.imp (.and J35 J39) (.not (.cmp .lss (.int 2147483648) J30)))
theorem G122:Tr F122:=ii2 fun ρ p0 p1=>by
 try simp only [smA,smW] at *
 grind
def F123:E:=(.imp J105 (.not (.cmp .lss (.fn 1 (.pr J72 J69)) (.int 0))))
theorem G123:Tr F123:=ii4 fun ρ p0 p1 p2 p3=>by
 have:=@t126_elem ρ _ _ _ _ _ _ p0 J69
 try simp only [smA,smW] at *
 grind
def F124:E:=(.imp J107 (.not (.cmp .lss J108 (.int 0))))
theorem G124:Tr F124:=ii3 fun ρ p0 p1 p2=>by
 try simp only [smA,smW] at *
 obtain ⟨a9,ea9,qa9⟩:=cs_i64 ((E.I ρ J69) + (1))
 try simp only [ea9] at *
 grind
def F125:E:=(.imp (.and (.not (.cmp .lss J69 J30)) (.and (.fn 126 (.pr J6 (.pr J1 (.pr J3 (.pr J0 (.pr J69 (.int 0))))))) (.cmp .eql J30 (.fn 0 J0)))) (.fn 120 (.pr (.fn 40 J0) J54)))
theorem G125:Tr F125:=ii3 fun ρ p0 p1 p2=>by
 have:=@t120_of ρ _ _ _ _ _ _ p1
 try simp only [smA,smW] at *
 grind
def F126:E:=(.imp J105 (.cmp .lss (.fn 1 (.pr J72 J69)) J1))
theorem G126:Tr F126:=ii4 fun ρ p0 p1 p2 p3=>by
 have:=@t126_elem ρ _ _ _ _ _ _ p0 J69
 try simp only [smA,smW] at *
 grind
def F127:E:=(.imp (.and J95 (.and J99 J106)) (.not (.cmp .lss J98 J108)))
theorem G127:Tr F127:=ii4 fun ρ p0 p1 p2 p3=>by
 try simp only [smA,smW] at *
 obtain ⟨a9,ea9,qa9⟩:=cs_i64 ((E.I ρ J69) + (1))
 try simp only [ea9] at *
 grind
def F128:E:=(.imp (.cmp .eql J30 (.fn 0 J0)) (.cmp .eql J30 (.fn 0 (.fn 40 J0))))
theorem G128:Tr F128:=ii1 fun ρ p0=>by
 have:=@len_sort ρ J0
 try simp only [smA,smW] at *
 grind
def F129:E:=(.imp J109 (.not (.cmp .lss (.int 1000) J98)))
theorem G129:Tr F129:=ii2 fun ρ p0 p1=>by
 try simp only [smA,smW] at *
 grind
def F130:E:=(.imp J114 (.not (.cmp .lss J115 (.int 0))))
theorem G130:Tr F130:=ii3 fun ρ p0 p1 p2=>by
 try simp only [smA,smW] at *
 obtain ⟨a9,ea9,qa9⟩:=cs_i64 ((E.I ρ J96) + (1))
 try simp only [ea9] at *
 grind
def F131:E:=(.imp (.and (.not J110) (.and J97 (.and J95 J117))) (.fn 126 (.pr J6 (.pr J1 (.pr J3 (.pr J72 (.pr J108 (.int 0))))))))
theorem G131:Tr F131:=ii7 fun ρ p0 p1 p2 p3 p4 p5 p6=>by
 have:=@wrap_add ρ J69 (.int 1)
 have:=@t126_next ρ _ _ _ _ _ J108 _ (.int 0) p1
 try simp only [smA,smW] at *
 grind
def F132:E:=(.imp (.and J35 J39) (.not (.cmp .lss (.int 20) J30)))
theorem G132:Tr F132:=ii2 fun ρ p0 p1=>by
 try simp only [smA,smW] at *
 grind
def F133:E:=(.imp (.and J99 (.and J101 (.not (.cmp .lss (.var 10) J98)))) (.not (.cmp .lss (.var 10) (.int 0))))
theorem G133:Tr F133:=ii3 fun ρ p0 p1 p2=>by
 try simp only [smA,smW] at *
 grind
def F134:E:=(.imp J120 (.not (.cmp .lss J1 J115)))
theorem G134:Tr F134:=ii4 fun ρ p0 p1 p2 p3=>by
 try simp only [smA,smW] at *
 obtain ⟨a9,ea9,qa9⟩:=cs_i64 ((E.I ρ J96) + (1))
 try simp only [ea9] at *
 grind
def F135:E:=(.imp J107 (.cmp .lss (.fn 7 (.pr J1 J108)) (.fn 7 (.pr J1 J69))))
theorem G135:Tr F135:=ii3 fun ρ p0 p1 p2=>by
 try simp only [smA,smW] at *
 obtain ⟨a9,ea9,qa9⟩:=cs_i64 ((E.I ρ J69) + (1))
 try simp only [ea9] at *
 grind
def F136:E:=(.imp J109 (.not (.cmp .lss (.int 2147483648) (.fn 6 (.pr J98 (.int 1))))))
theorem G136:Tr F136:=ii2 fun ρ p0 p1=>by
 try simp only [smA,smW] at *
 grind
def F137:E:=(.imp (.and J110 (.and J121 (.and (.var 12) J122))) J125)
theorem G137:Tr F137:=ii6 fun ρ p0 p1 p2 p3 p4 p5=>by
 have:=@wrap_add ρ J96 (.int 1)
 have:=@t126_keep ρ _ _ _ _ _ J115 _ p3
 try simp only [smA,smW] at *
 grind
def F138:E:=(.imp (.and (.not J110) (.and J118 J107)) (.not (.cmp .lss (.fn 7 (.pr J1 J108)) (.int 0))))
theorem G138:Tr F138:=ii5 fun ρ p0 p1 p2 p3 p4=>by
 try simp only [smA,smW] at *
 obtain ⟨a9,ea9,qa9⟩:=cs_i64 ((E.I ρ J69) + (1))
 try simp only [ea9] at *
 grind
def F139:E:=(.imp J102 (.cmp .eql (.fn 6 (.pr J98 (.int 1))) (.fn 6 (.pr (.fn 0 J72) (.int 1)))))
theorem G139:Tr F139:=ii1 fun ρ p0=>by
 try simp only [smA,smW] at *
 grind
def F140:E:=(.imp (.and J110 (.and J121 (.and (.not (.var 12)) (.and J127 (.and (.var 13) J122))))) J125)
theorem G140:Tr F140:=ii8 fun ρ p0 p1 p2 p3 p4 p5 p6 p7=>by
 have:=@wrap_add ρ J96 (.int 1)
 have:=@t126_keep ρ _ _ _ _ _ J115 _ p5
 try simp only [smA,smW] at *
 grind
def F141:E:=(.imp J114 (.cmp .lss (.fn 7 (.pr J1 J115)) (.fn 7 (.pr J1 J96))))
theorem G141:Tr F141:=ii3 fun ρ p0 p1 p2=>by
 try simp only [smA,smW] at *
 obtain ⟨a9,ea9,qa9⟩:=cs_i64 ((E.I ρ J96) + (1))
 try simp only [ea9] at *
 grind
def F142:E:=(.imp (.and J97 (.and J110 (.and J121 (.and (.not (.var 12)) (.and J127 (.and (.not (.var 13)) (.and J112 J104))))))) (.not (.cmp .lss J1 (.fn 6 (.pr J98 (.int 1))))))
theorem G142:Tr F142:=ii10 fun ρ p0 p1 p2 p3 p4 p5 p6 p7 p8 p9=>by
 have:=@t126_len ρ _ _ _ _ _ _ p0
 have:=fun e0 e1 e2 e3 e4 e5 e6 e7=>@t126_len ρ _ _ _ _ _ _ (@t126_add ρ _ _ _ _ _ (.fn 6 (.pr J96 (.int 1))) _ (.int 0) p0 e0 e1 e2 e3 e4 e5 e6) e7
 have:=@len_app1 ρ J96 J72 (.int 0)
 try simp only [smA,smW] at *
 grind
def F143:E:=(.imp J120 (.not (.cmp .lss (.fn 7 (.pr J1 J115)) (.int 0))))
theorem G143:Tr F143:=ii4 fun ρ p0 p1 p2 p3=>by
 try simp only [smA,smW] at *
 obtain ⟨a9,ea9,qa9⟩:=cs_i64 ((E.I ρ J96) + (1))
 try simp only [ea9] at *
 grind
def F144:E:=(.imp J99 (.cmp .lss J69 (.fn 6 (.pr J98 (.int 1)))))
theorem G144:Tr F144:=ii1 fun ρ p0=>by
 try simp only [smA,smW] at *
 grind
def F145:E:=(.imp (.and J110 (.and J121 (.and (.not (.var 12)) (.and J127 (.and (.not (.var 13)) (.and J97 (.and J112 J117))))))) (.fn 126 (.pr J6 (.pr J1 (.pr J3 (.pr (.fn 3 (.pr J72 (.fn 23 (.pr J96 (.fn 10 (.int 0)))))) (.pr J69 J115)))))))
theorem G145:Tr F145:=ii11 fun ρ p0 p1 p2 p3 p4 p5 p6 p7 p8 p9 p10=>by
 have:=@wrap_add ρ J96 (.int 1)
 have:=@t126_add ρ _ _ _ _ _ J115 _ (.int 0) p5
 try simp only [smA,smW] at *
 grind
namespace p9
def facts:List E:=[F120,F121,F122,F123,F124,F125,F126,F127,F128,F129,F130,F131,F132,F133,F134,F135,F136,F137,F138,F139,F140,F141,F142,F143,F144,F145]
theorem facts_ok:∀ e∈facts,Tr e:=(ac G120 (ac G121 (ac G122 (ac G123 (ac G124 (ac G125 (ac G126 (ac G127 (ac G128 (ac G129 (ac G130 (ac G131 (ac G132 (ac G133 (ac G134 (ac G135 (ac G136 (ac G137 (ac G138 (ac G139 (ac G140 (ac G141 (ac G142 (ac G143 (ac G144 (ac G145 all_nil))))))))))))))))))))))))))
end p9
theorem spec9_0:NatOk Try.prog (specNat (spGr)) :=
 spec_of_check good (facts:=p9.facts) p9.facts_ok (anns:=annGr) (plainAnns_ok _ (by kernel_rfl)) (nats:=natl10) natl10_ok (n:=3000) (by kernel_rfl)
def natl11:List Nat1:=specNat (spGr)::natl10
theorem natl11_ok:∀ x∈natl11,NatOk Try.prog x:=by
 intro x hx
 rcases List.mem_cons.1 hx with rfl | hx
 ·exact spec9_0
 exact natl10_ok x hx

end
end Go.Proofs.Ytmngplmblanhdaa.metaHolds
