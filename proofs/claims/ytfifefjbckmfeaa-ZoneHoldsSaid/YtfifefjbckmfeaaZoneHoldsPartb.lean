/-
  ZoneHolds: contracts of functions, part 2.
-/
import Derived.Test.YtfifefjbckmfeaaRows
import Derived.Test.YtfifefjbckmfeaaNat
import Derived.WalkKit
import Derived.ProofKit
import Derived.OpenShut
import Derived.ChangeOld
import Derived.Below
import Derived.KernelRfl
import Derived.Lib.SmallJoins
import Derived.Test.YtfifefjbckmfeaaTheory
import Derived.Test.YtfifefjbckmfeaaZoneHoldsParta
namespace Go.Proofs.Ytfifefjbckmfeaa.zoneHolds
open Go.ChangeShapes Go.WideShapes Go.ChangeAt Go.RowKit
open Go.SX
set_option linter.unusedVariables false
set_option linter.unusedSimpArgs false
set_option maxRecDepth 100000
noncomputable section
abbrev J0:E:=.var 8
abbrev J1:E:=.cmp .lss (.int 81) J0
abbrev J2:E:=.not J1
abbrev J3:E:=.bool false
abbrev J4:E:=.var 0
abbrev J5:E:=.cmp .lss (.int 80) (.fn 9 (.pr J4 (.int 4)))
abbrev J6:E:=.not J5
abbrev J7:E:=.not (.cmp .lss J0 (.int 0))
abbrev J8:E:=.cmp .lss J0 (.int 81)
abbrev J9:E:=.ar .add .i64 J0 (.int 1)
abbrev J10:E:=.cmp .lss J9 (.int 0)
abbrev J11:E:=.not J10
abbrev J12:E:=.cmp .lss J0 (.fn 9 (.pr J4 (.int 4)))
abbrev J13:E:=.imp J6 J6
abbrev J14:E:=.cmp .lss (.fn 9 (.pr J4 (.int 4))) J0
abbrev J15:E:=.not J14
abbrev J16:E:=.and J8 J2
abbrev J17:E:=.and J7 J16
abbrev J18:E:=.var 1
abbrev J19:E:=.cmp .eql J18 (.int 0)
abbrev J20:E:=.bool true
abbrev J21:E:=.cmp .eql (.fn 0 J4) (.fn 0 J18)
abbrev J22:E:=.pr J18 (.fn 0 J4)
abbrev J23:E:=.pr J4 J22
abbrev J24:E:=.fn 114 J23
abbrev J25:E:=.and J21 J24
abbrev J26:E:=.iff J3 J25
abbrev J27:E:=.cmp .eql (.fn 0 J18) (.fn 0 J4)
abbrev J28:E:=.cmp .lss J0 (.fn 0 J4)
abbrev J29:E:=.cmp .lss (.fn 0 J4) J0
abbrev J30:E:=.not J29
abbrev J31:E:=.and J30 J27
abbrev J32:E:=.cmp .eql (.fn 1 (.pr J4 J0)) (.fn 1 (.pr J18 J0))
abbrev J33:E:=.cmp .lss (.int 1000) (.fn 0 J4)
abbrev J34:E:=.not J33
abbrev J35:E:=.and J7 J34
abbrev J36:E:=.and J28 J35
abbrev J37:E:=.and J30 J35
abbrev J38:E:=.and J28 J37
abbrev J39:E:=.var 4
abbrev J40:E:=.cmp .eql J18 J39
abbrev J41:E:=.var 3
abbrev J42:E:=.pr J4 (.pr J41 J18)
abbrev J43:E:=.fn 114 J42
abbrev J44:E:=.and J40 J43
abbrev J45:E:=.iff J3 J44
abbrev J46:E:=.cmp .eql J39 J18
abbrev J47:E:=.cmp .lss J0 J18
abbrev J48:E:=.cmp .lss J18 J0
abbrev J49:E:=.not J48
abbrev J50:E:=.and J49 J46
abbrev J51:E:=.cmp .eql (.fn 1 (.pr J4 J0)) (.fn 1 (.pr J41 J0))
abbrev J52:E:=.and (.cmp .eql (.fn 0 J41) J39) (.cmp .eql (.fn 0 J4) J18)
abbrev J53:E:=.cmp .lss (.int 1000) J39
abbrev J54:E:=.not J53
abbrev J55:E:=.and J46 J54
abbrev J56:E:=.and J7 J55
abbrev J57:E:=.and J47 J56
abbrev J58:E:=.and J49 J56
abbrev J59:E:=.and J47 J58
abbrev J60:E:=.cmp .eql (.fn 107 (.pr J4 J41)) (.int (-1))
abbrev J61:E:=.cmp .lss (.fn 107 (.pr J4 J41)) (.int 0)
abbrev J62:E:=.not J61
abbrev J63:E:=.cmp .eql (.fn 107 (.pr J4 J41)) J39
abbrev J64:E:=.cmp .eql (.fn 108 (.pr J4 (.pr (.fn 107 (.pr J4 J41)) J41))) (.var 5)
abbrev J65:E:=.and J63 J64
abbrev J66:E:=.and J62 J65
abbrev J67:E:=.iff J3 J66
abbrev J68:E:=.and (.cmp .eql (.var 7) (.var 5)) J20
abbrev J69:E:=.and (.cmp .eql (.var 6) J39) J68
abbrev J70:E:=.cmp .eql (.var 7) (.fn 108 (.pr J4 (.pr (.var 6) J41)))
abbrev J71:E:=.cmp .eql (.var 6) (.fn 107 (.pr J4 J41))
def F57:E:=(.imp J2 (.imp J3 J6))
theorem G57:Tr F57:=ii1 fun ρ p0=>by
 try simp only [smA,smW] at *
 grind
def F58:E:=(.imp (.and J7 J8) J11)
theorem G58:Tr F58:=ii2 fun ρ p0 p1=>by
 try simp only [smA,smW] at *
 obtain ⟨a3,ea3,qa3⟩:=cs_i64 ((E.I ρ J0) + (1))
 try simp only [ea3] at *
 grind
def F59:E:=(.imp (.and J12 (.not J8)) J13)
theorem G59:Tr F59:=ii2 fun ρ p0 p1=>by
 try simp only [smA,smW] at *
 grind
def F60:E:=(.imp (.and J15 (.and (.not J12) J2)) J13)
theorem G60:Tr F60:=ii3 fun ρ p0 p1 p2=>by
 try simp only [smA,smW] at *
 grind
def F61:E:=(.imp J17 (.not (.cmp .lss (.int 81) J9)))
theorem G61:Tr F61:=ii3 fun ρ p0 p1 p2=>by
 try simp only [smA,smW] at *
 obtain ⟨a3,ea3,qa3⟩:=cs_i64 ((E.I ρ J0) + (1))
 try simp only [ea3] at *
 grind
def F62:E:=(.imp (.and J15 (.and J7 (.and J12 J8))) (.not (.cmp .lss (.fn 9 (.pr J4 (.int 4))) J9)))
theorem G62:Tr F62:=ii4 fun ρ p0 p1 p2 p3=>by
 try simp only [smA,smW] at *
 obtain ⟨a3,ea3,qa3⟩:=cs_i64 ((E.I ρ J0) + (1))
 try simp only [ea3] at *
 grind
def F63:E:=(.imp (.and J7 J8) (.cmp .lss (.fn 7 (.pr (.int 81) J9)) (.fn 7 (.pr (.int 81) J0))))
theorem G63:Tr F63:=ii2 fun ρ p0 p1=>by
 try simp only [smA,smW] at *
 obtain ⟨a3,ea3,qa3⟩:=cs_i64 ((E.I ρ J0) + (1))
 try simp only [ea3] at *
 grind
def F64:E:=(.imp J17 (.not (.cmp .lss (.fn 7 (.pr (.int 81) J9)) (.int 0))))
theorem G64:Tr F64:=ii3 fun ρ p0 p1 p2=>by
 try simp only [smA,smW] at *
 obtain ⟨a3,ea3,qa3⟩:=cs_i64 ((E.I ρ J0) + (1))
 try simp only [ea3] at *
 grind
namespace p10
def facts:List E:=[F57,F58,F59,F60,F61,F62,F63,F64]
theorem facts_ok:∀ e∈facts,Tr e:=(ac G57 (ac G58 (ac G59 (ac G60 (ac G61 (ac G62 (ac G63 (ac G64 all_nil))))))))
end p10
theorem spec10_0:NatOk Try.prog (specNat (spSm)) :=
 spec_of_check good (facts:=p10.facts) p10.facts_ok (anns:=annSm) (plainAnns_ok _ (by kernel_rfl)) (nats:=natl11) natl11_ok (n:=3000) (by kernel_rfl)
def natl12:List Nat1:=specNat (spSm)::natl11
theorem natl12_ok:∀ x∈natl12,NatOk Try.prog x:=by
 intro x hx
 rcases List.mem_cons.1 hx with rfl | hx
 ·exact spec10_0
 exact natl11_ok x hx

def F65:E:=(.imp (.not J19) (.iff J3 J19))
theorem G65:Tr F65:=ii1 fun ρ p0=>by
 try simp only [smA,smW] at *
 grind
def F66:E:=(.imp J19 (.iff J20 J19))
theorem G66:Tr F66:=ii1 fun ρ p0=>by
 try simp only [smA,smW] at *
 grind
namespace p11
def facts:List E:=[F65,F66]
theorem facts_ok:∀ e∈facts,Tr e:=(ac G65 (ac G66 all_nil))
end p11
theorem spec11_0:NatOk Try.prog (specNat (spON)) :=
 spec_of_check good (facts:=p11.facts) p11.facts_ok (anns:=[]) (plainAnns_ok _ (by kernel_rfl)) (nats:=natl12) natl12_ok (n:=3000) (by kernel_rfl)
def natl13:List Nat1:=specNat (spON)::natl12
theorem natl13_ok:∀ x∈natl13,NatOk Try.prog x:=by
 intro x hx
 rcases List.mem_cons.1 hx with rfl | hx
 ·exact spec11_0
 exact natl12_ok x hx

namespace p12
def facts:List E:=[F65,F66]
theorem facts_ok:∀ e∈facts,Tr e:=(ac G65 (ac G66 all_nil))
end p12
theorem spec12_0:NatOk Try.prog (specNat (spNO)) :=
 spec_of_check good (facts:=p12.facts) p12.facts_ok (anns:=[]) (plainAnns_ok _ (by kernel_rfl)) (nats:=natl13) natl13_ok (n:=3000) (by kernel_rfl)
def natl14:List Nat1:=specNat (spNO)::natl13
theorem natl14_ok:∀ x∈natl14,NatOk Try.prog x:=by
 intro x hx
 rcases List.mem_cons.1 hx with rfl | hx
 ·exact spec12_0
 exact natl13_ok x hx

def F67:E:=(.imp (.not J21) J26)
theorem G67:Tr F67:=ii1 fun ρ p0=>by
 try simp only [smA,smW] at *
 grind
def F68:E:=(.imp J21 J27)
theorem G68:Tr F68:=ii1 fun ρ p0=>by
 try simp only [smA,smW] at *
 grind
def F69:E:=(.fn 114 (.pr J4 (.pr J18 (.int 0))))
theorem G69:Tr F69:=fun ρ=>by
 unfold F69
 have:=@t114_zero ρ J4 J18 (.int 0)
 try simp only [smA,smW] at *
 grind
def F70:E:=(.imp (.and J28 J31) (.cmp .lss J0 (.fn 0 J18)))
theorem G70:Tr F70:=ii3 fun ρ p0 p1 p2=>by
 try simp only [smA,smW] at *
 grind
def F71:E:=(.imp (.and (.not J28) (.and (.fn 114 (.pr J4 (.pr J18 J0))) J31)) (.iff J20 J25))
theorem G71:Tr F71:=ii4 fun ρ p0 p1 p2 p3=>by
 have:=@t114_eq ρ _ _ _ (.fn 0 J4) p1
 try simp only [smA,smW] at *
 grind
def F72:E:=(.imp (.and J28 (.and (.not J32) (.and J7 J27))) J26)
theorem G72:Tr F72:=ii4 fun ρ p0 p1 p2 p3=>by
 have:=@t114_fail ρ J4 J18 J0 (.fn 0 J4)
 try simp only [smA,smW] at *
 grind
def F73:E:=(.imp J36 J11)
theorem G73:Tr F73:=ii3 fun ρ p0 p1 p2=>by
 try simp only [smA,smW] at *
 obtain ⟨a5,ea5,qa5⟩:=cs_i64 ((E.I ρ J0) + (1))
 try simp only [ea5] at *
 grind
def F74:E:=(.imp J38 (.not (.cmp .lss (.fn 0 J4) J9)))
theorem G74:Tr F74:=ii4 fun ρ p0 p1 p2 p3=>by
 try simp only [smA,smW] at *
 obtain ⟨a5,ea5,qa5⟩:=cs_i64 ((E.I ρ J0) + (1))
 try simp only [ea5] at *
 grind
def F75:E:=(.imp (.and J28 (.and J32 (.and (.fn 114 (.pr J4 (.pr J18 J0))) (.and J7 (.and J27 J34))))) (.fn 114 (.pr J4 (.pr J18 J9))))
theorem G75:Tr F75:=ii6 fun ρ p0 p1 p2 p3 p4 p5=>by
 have:=@wrap_add ρ J0 (.int 1)
 have:=@t114_step ρ _ _ _ J9 p2
 try simp only [smA,smW] at *
 grind
def F76:E:=(.imp J36 (.cmp .lss (.fn 7 (.pr (.fn 0 J4) J9)) (.fn 7 (.pr (.fn 0 J4) J0))))
theorem G76:Tr F76:=ii3 fun ρ p0 p1 p2=>by
 try simp only [smA,smW] at *
 obtain ⟨a5,ea5,qa5⟩:=cs_i64 ((E.I ρ J0) + (1))
 try simp only [ea5] at *
 grind
def F77:E:=(.imp J38 (.not (.cmp .lss (.fn 7 (.pr (.fn 0 J4) J9)) (.int 0))))
theorem G77:Tr F77:=ii4 fun ρ p0 p1 p2 p3=>by
 try simp only [smA,smW] at *
 obtain ⟨a5,ea5,qa5⟩:=cs_i64 ((E.I ρ J0) + (1))
 try simp only [ea5] at *
 grind
namespace p13
def facts:List E:=[F67,F68,F69,F70,F71,F72,F73,F74,F75,F76,F77]
theorem facts_ok:∀ e∈facts,Tr e:=(ac G67 (ac G68 (ac G69 (ac G70 (ac G71 (ac G72 (ac G73 (ac G74 (ac G75 (ac G76 (ac G77 all_nil)))))))))))
end p13
theorem spec13_0:NatOk Try.prog (specNat (spSB)) :=
 spec_of_check good (facts:=p13.facts) p13.facts_ok (anns:=annSB) (plainAnns_ok _ (by kernel_rfl)) (nats:=natl14) natl14_ok (n:=3000) (by kernel_rfl)
def natl15:List Nat1:=specNat (spSB)::natl14
theorem natl15_ok:∀ x∈natl15,NatOk Try.prog x:=by
 intro x hx
 rcases List.mem_cons.1 hx with rfl | hx
 ·exact spec13_0
 exact natl14_ok x hx

def F78:E:=(.imp (.not J40) J45)
theorem G78:Tr F78:=ii1 fun ρ p0=>by
 try simp only [smA,smW] at *
 grind
def F79:E:=(.imp J40 J46)
theorem G79:Tr F79:=ii1 fun ρ p0=>by
 try simp only [smA,smW] at *
 grind
def F80:E:=(.fn 114 (.pr J4 (.pr J41 (.int 0))))
theorem G80:Tr F80:=fun ρ=>by
 unfold F80
 have:=@t114_zero ρ J4 J41 (.int 0)
 try simp only [smA,smW] at *
 grind
def F81:E:=(.imp (.and J47 J50) (.cmp .lss J0 J39))
theorem G81:Tr F81:=ii3 fun ρ p0 p1 p2=>by
 try simp only [smA,smW] at *
 grind
def F82:E:=(.imp (.and (.not J47) (.and (.fn 114 (.pr J4 (.pr J41 J0))) J50)) (.iff J20 J44))
theorem G82:Tr F82:=ii4 fun ρ p0 p1 p2 p3=>by
 have:=@t114_eq ρ _ _ _ J18 p1
 try simp only [smA,smW] at *
 grind
def F83:E:=(.imp (.and J47 (.and (.not J51) (.and J7 (.and J46 J52)))) J45)
theorem G83:Tr F83:=ii6 fun ρ p0 p1 p2 p3 p4 p5=>by
 have:=@t114_fail ρ J4 J41 J0 J18
 try simp only [smA,smW] at *
 grind
def F84:E:=(.imp J57 J11)
theorem G84:Tr F84:=ii4 fun ρ p0 p1 p2 p3=>by
 try simp only [smA,smW] at *
 obtain ⟨a9,ea9,qa9⟩:=cs_i64 ((E.I ρ J0) + (1))
 try simp only [ea9] at *
 grind
def F85:E:=(.imp J59 (.not (.cmp .lss J18 J9)))
theorem G85:Tr F85:=ii5 fun ρ p0 p1 p2 p3 p4=>by
 try simp only [smA,smW] at *
 obtain ⟨a9,ea9,qa9⟩:=cs_i64 ((E.I ρ J0) + (1))
 try simp only [ea9] at *
 grind
def F86:E:=(.imp (.and J47 (.and J51 (.and (.fn 114 (.pr J4 (.pr J41 J0))) (.and J7 (.and J46 (.and J54 J52)))))) (.fn 114 (.pr J4 (.pr J41 J9))))
theorem G86:Tr F86:=ii8 fun ρ p0 p1 p2 p3 p4 p5 p6 p7=>by
 have:=@wrap_add ρ J0 (.int 1)
 have:=@t114_step ρ _ _ _ J9 p2
 try simp only [smA,smW] at *
 grind
def F87:E:=(.imp J57 (.cmp .lss (.fn 7 (.pr J18 J9)) (.fn 7 (.pr J18 J0))))
theorem G87:Tr F87:=ii4 fun ρ p0 p1 p2 p3=>by
 try simp only [smA,smW] at *
 obtain ⟨a9,ea9,qa9⟩:=cs_i64 ((E.I ρ J0) + (1))
 try simp only [ea9] at *
 grind
def F88:E:=(.imp J59 (.not (.cmp .lss (.fn 7 (.pr J18 J9)) (.int 0))))
theorem G88:Tr F88:=ii5 fun ρ p0 p1 p2 p3 p4=>by
 try simp only [smA,smW] at *
 obtain ⟨a9,ea9,qa9⟩:=cs_i64 ((E.I ρ J0) + (1))
 try simp only [ea9] at *
 grind
namespace p14
def facts:List E:=[F78,F79,F80,F81,F82,F83,F84,F85,F86,F87,F88]
theorem facts_ok:∀ e∈facts,Tr e:=(ac G78 (ac G79 (ac G80 (ac G81 (ac G82 (ac G83 (ac G84 (ac G85 (ac G86 (ac G87 (ac G88 all_nil)))))))))))
end p14
theorem spec14_0:NatOk Try.prog (specNat (spSO)) :=
 spec_of_check good (facts:=p14.facts) p14.facts_ok (anns:=annSO) (plainAnns_ok _ (by kernel_rfl)) (nats:=natl15) natl15_ok (n:=3000) (by kernel_rfl)
def natl16:List Nat1:=specNat (spSO)::natl15
theorem natl16_ok:∀ x∈natl16,NatOk Try.prog x:=by
 intro x hx
 rcases List.mem_cons.1 hx with rfl | hx
 ·exact spec14_0
 exact natl15_ok x hx

def F89:E:=(.imp (.and (.and (.cmp .eql J39 (.int 0)) (.and (.cmp .eql (.var 5) (.int 0)) J20)) (.and (.not (.cmp .eql (.var 6) (.int 0))) J60)) (.iff (.cmp .eql (.var 6) (.int 0)) J66))
theorem G89:Tr F89:=ii3 fun ρ p0 p1 p2=>by
 try simp only [smA,smW] at *
 grind
def F90:E:=(.imp J60 J67)
theorem G90:Tr F90:=ii1 fun ρ p0=>by
 try simp only [smA,smW] at *
 grind
def F91:E:=(.imp (.and J69 (.and J70 (.and (.not (.cmp .lss (.var 6) (.int 0))) J71))) (.iff J20 J66))
theorem G91:Tr F91:=ii4 fun ρ p0 p1 p2 p3=>by
 have hc84:=I_108_congr (ρ:=ρ) (l:=J4) (z:=(.fn 107 (.pr J4 J41))) (z':=(.var 6)) (id:=J41)
 try simp only [smA,smW] at *
 grind
def F92:E:=(.imp (.and J70 (.and J71 (.not J69))) J67)
theorem G92:Tr F92:=ii3 fun ρ p0 p1 p2=>by
 have hc84:=I_108_congr (ρ:=ρ) (l:=J4) (z:=(.fn 107 (.pr J4 J41))) (z':=(.var 6)) (id:=J41)
 try simp only [smA,smW] at *
 grind
namespace p15
def facts:List E:=[F89,F90,F91,F92]
theorem facts_ok:∀ e∈facts,Tr e:=(ac G89 (ac G90 (ac G91 (ac G92 all_nil))))
end p15
theorem spec15_0:NatOk Try.prog (specNat (spWh)) :=
 spec_of_check good (facts:=p15.facts) p15.facts_ok (anns:=[]) (plainAnns_ok _ (by kernel_rfl)) (nats:=natl16) natl16_ok (n:=3000) (by kernel_rfl)
def natl17:List Nat1:=specNat (spWh)::natl16
theorem natl17_ok:∀ x∈natl17,NatOk Try.prog x:=by
 intro x hx
 rcases List.mem_cons.1 hx with rfl | hx
 ·exact spec15_0
 exact natl16_ok x hx

end
end Go.Proofs.Ytfifefjbckmfeaa.zoneHolds
