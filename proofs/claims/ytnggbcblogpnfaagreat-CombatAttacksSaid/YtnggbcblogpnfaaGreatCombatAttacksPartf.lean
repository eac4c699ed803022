/-
  CombatAttacks: contracts of functions, part 6.
-/
import Derived.Test.YtnggbcblogpnfaaGreatCombatAttacksParte
namespace Go.Proofs.YtnggbcblogpnfaaGreat.combatAttacks
open Go.ChangeShapes Go.WideShapes Go.ChangeAt Go.RowKit
open Go.SX
open Go.SX.E (fn pr cmp var)
set_option linter.unusedVariables false
set_option linter.unusedSimpArgs false
set_option maxRecDepth 100000
noncomputable section
abbrev K0:E:=var 0
abbrev K1:E:=cmp .eql (fn 1 (pr K0 (.int 34))) (.int 0)
abbrev K2:E:=cmp .eql (.ar .sub .i64 (.int 1) (fn 1 (pr K0 (.int 34)))) (.int 0)
abbrev K3:E:=.not K2
abbrev K4:E:=cmp .eql (.ar .sub .i64 (.int 1) (fn 1 (pr K0 (.int 34)))) (.int 1)
abbrev K5:E:=cmp .lss (.int 1) (fn 1 (pr K0 (.int 34)))
abbrev K6:E:=.not K5
abbrev K7:E:=cmp .lss (fn 1 (pr K0 (.int 34))) (.int 0)
abbrev K8:E:=.not K7
abbrev K9:E:=fn 117 K0
abbrev pK:=[K9]
abbrev K11:=K8::pK
abbrev HI:=K6::K11
abbrev Q8:=K3::HI
abbrev HJ:E:=pr K0 (pr (fn 1 (pr K0 (.int 34))) (.int 2))
abbrev K15:E:=pr (fn 1 (pr K0 (.int 22))) HJ
abbrev Rr:E:=fn 109 K15
abbrev HK:E:=pr K0 (pr (fn 7 (pr (.int 1) (fn 1 (pr K0 (.int 34))))) (.int 2))
abbrev K18:E:=pr (fn 1 (pr K0 (.int 22))) HK
abbrev RE:E:=fn 109 K18
abbrev K20:E:=pr (fn 1 (pr K0 (.int 8))) HK
abbrev RF:E:=fn 109 K20
abbrev dt:E:=var 8
abbrev sa:E:=cmp .lss dt (fn 0 (fn 1 (pr K0 (.int 31))))
abbrev vS:E:=var 9
abbrev jI:E:=.bool false
abbrev RG:E:=.not (fn 32 (pr vS (pr (fn 1 (pr (fn 1 (pr K0 (.int 31))) dt)) jI)))
abbrev RH:E:=cmp .lss (var 12) (.int 0)
abbrev RI:E:=.not RH
abbrev RJ:E:=var 10
abbrev K30:E:=pr RJ (fn 1 (pr (fn 1 (pr K0 (.int 31))) dt))
abbrev K31:E:=fn 114 K30
abbrev RK:E:=.iff RI K31
abbrev sb:E:=fn 108 K0
abbrev K34:E:=pr dt (.int 0)
abbrev K35:E:=pr K0 K34
abbrev K36:E:=pr vS K35
abbrev RL:E:=fn 113 K36
abbrev K38:E:=pr K0 dt
abbrev RM:E:=fn 111 K38
abbrev K40:E:=cmp .lss dt (.int 0)
abbrev RN:E:=.not K40
abbrev K42:E:=pr RJ HJ
abbrev K43:E:=fn 109 K42
abbrev K44:=[K43]
abbrev K45:=RN::K44
abbrev K46:=RM::K45
abbrev RO:=RL::K46
abbrev K48:=sb::RO
abbrev K49:=K8::K48
abbrev RP:=K6::K49
abbrev HN:E:=fn 110 K0
abbrev sd:E:=.iff jI HN
abbrev K53:=[RN]
abbrev K54:=sa::K53
abbrev Av:=K9::K54
abbrev K56:E:=cmp .lss (fn 0 (fn 1 (pr K0 (.int 31)))) dt
abbrev K57:E:=.not K56
abbrev RQ:=[K57]
abbrev Aw:E:=fn 111 (pr K0 (fn 0 (fn 1 (pr K0 (.int 31)))))
abbrev K60:=K9::RO
abbrev K61:=sb::K60
abbrev K62:=K8::K61
abbrev K63:=K6::K62
abbrev K64:=RI::K63
abbrev K65:=RK::K64
abbrev K66:=RG::K65
abbrev RR:=sa::K66
abbrev Ax:E:=.bool true
abbrev bY:E:=var 16
abbrev pM:E:=cmp .lss bY (fn 9 (pr (fn 1 (pr K0 (.int 32))) (.int 2)))
abbrev pN:E:=var 17
abbrev HO:E:=.not (fn 32 (pr pN (pr (.ar .sub .i64 (.int 0) (fn 1 (pr (fn 1 (pr K0 (.int 32))) (fn 6 (pr (fn 8 (pr bY (.int 2))) (.int 0)))))) jI)))
abbrev RS:E:=cmp .lss (var 21) (.int 0)
abbrev RT:E:=.not RS
abbrev RU:E:=var 19
abbrev K76:E:=pr RU (fn 1 (pr (fn 1 (pr K0 (.int 32))) (fn 6 (pr (fn 8 (pr bY (.int 2))) (.int 0)))))
abbrev K77:E:=fn 114 K76
abbrev RV:E:=.iff RT K77
abbrev K79:E:=pr (fn 0 (fn 1 (pr K0 (.int 31)))) bY
abbrev K80:E:=pr K0 K79
abbrev K81:E:=pr pN K80
abbrev RW:E:=fn 113 K81
abbrev HP:E:=fn 112 (pr K0 bY)
abbrev K84:E:=cmp .lss bY (.int 0)
abbrev HQ:E:=.not K84
abbrev K86:E:=pr RU HK
abbrev RX:E:=fn 109 K86
abbrev K88:=[K8,sb]
abbrev K89:=K6::K88
abbrev K90:=RX::K89
abbrev K91:=HQ::K90
abbrev K92:=Aw::K91
abbrev K93:=HP::K92
abbrev Ay:=RW::K93
abbrev K95:=[HQ]
abbrev K96:=pM::K95
abbrev Az:=K9::K96
abbrev RY:E:=cmp .lss (var 20) (.int 0)
abbrev RZ:E:=.not RY
abbrev avX:E:=pr (fn 1 (pr K0 (.int 31))) (fn 1 (pr (fn 1 (pr K0 (.int 32))) (fn 6 (pr (fn 8 (pr bY (.int 2))) (.int 1)))))
abbrev avY:E:=fn 114 avX
abbrev QZ:E:=.iff RZ avY
abbrev avZ:=RX::K6::K8::sb::pK
abbrev av0:=HQ::avZ
abbrev av1:=Aw::av0
abbrev av2:=HP::av1
abbrev av3:=RW::av2
abbrev av4:=RT::av3
abbrev av5:=RV::av4
abbrev av6:=RZ::av5
abbrev av7:=QZ::av6
abbrev av8:=HO::av7
abbrev av9:List E:=(fn 32 (pr pN (pr (fn 1 (pr (fn 1 (pr K0 (.int 32))) (fn 6 (pr (fn 8 (pr bY (.int 2))) (.int 1))))) jI)))::av8
abbrev Q0:=pM::av9
abbrev b7:E:=.iff jI (fn 115 K0)
abbrev Q1:E:=cmp .lss (fn 1 (pr K0 (.int 33))) (.int 0)
abbrev cu:E:=.not Q1
abbrev Q2:E:=cmp .lss (.int 1000) (fn 1 (pr K0 (.int 33)))
abbrev cx:E:=.not Q2
abbrev Q3:E:=cmp .lss (fn 1 (pr K0 (.int 35))) (.int 0)
abbrev cA:E:=.not Q3
abbrev Q4:E:=cmp .lss (.int 10) (fn 1 (pr K0 (.int 35)))
abbrev cD:E:=.not Q4
abbrev Q5:E:=cmp .lss (fn 1 (pr K0 (.int 36))) (.int (-1))
abbrev cH:E:=.not Q5
abbrev Q6:E:=cmp .lss (.int 1) (fn 1 (pr K0 (.int 36)))
abbrev cK:E:=.not Q6
abbrev Q7:E:=cmp .lss (fn 1 (pr K0 (.int 37))) (.int 0)
abbrev cN:E:=.not Q7
abbrev Q9:E:=cmp .lss (.int 2) (fn 1 (pr K0 (.int 37)))
abbrev cS:E:=.not Q9
abbrev Ra:E:=cmp .lss (fn 1 (pr K0 (.int 1))) (.int 0)
abbrev cZ:E:=.not Ra
abbrev Rb:E:=cmp .lss (.int 9999) (fn 1 (pr K0 (.int 1)))
abbrev dd:E:=.not Rb
abbrev Rc:E:=cmp .lss (fn 1 (pr K0 (.int 2))) (.int 0)
abbrev dl:E:=.not Rc
abbrev Rd:E:=cmp .lss (.int 99) (fn 1 (pr K0 (.int 2)))
abbrev Re:E:=cmp .lss (fn 1 (pr K0 (.int 3))) (.int 0)
abbrev dE:E:=.not Re
abbrev Rf:E:=cmp .lss (.int 99) (fn 1 (pr K0 (.int 3)))
abbrev Rg:E:=cmp .lss (fn 1 (pr K0 (.int 4))) (.int 0)
abbrev dJ:E:=.not Rg
abbrev Rh:E:=cmp .lss (.int 99) (fn 1 (pr K0 (.int 4)))
abbrev Ri:E:=cmp .lss (fn 1 (pr K0 (.int 5))) (.int 0)
abbrev dY:E:=.not Ri
abbrev Rj:E:=cmp .lss (.int 99) (fn 1 (pr K0 (.int 5)))
abbrev Rk:E:=cmp .lss (fn 1 (pr K0 (.int 13))) (.int 0)
abbrev eB:E:=.not Rk
abbrev Rl:E:=cmp .lss (.int 7) (fn 1 (pr K0 (.int 13)))
abbrev eJ:E:=.not Rl
abbrev Rm:E:=cmp .lss (fn 1 (pr K0 (.int 14))) (.int 0)
abbrev eX:E:=.not Rm
abbrev Rn:E:=cmp .lss (.int 255) (fn 1 (pr K0 (.int 14)))
abbrev Ro:E:=cmp .lss (fn 1 (pr K0 (.int 15))) (.int 0)
abbrev fL:E:=.not Ro
abbrev Rp:E:=cmp .lss (.int 9999) (fn 1 (pr K0 (.int 15)))
abbrev fY:E:=.not Rp
abbrev Rq:E:=cmp .lss (fn 1 (pr K0 (.int 16))) (.int 0)
abbrev gx:E:=.not Rq
abbrev Rs:E:=cmp .lss (.int 99) (fn 1 (pr K0 (.int 16)))
abbrev Rt:E:=cmp .lss (fn 1 (pr K0 (.int 17))) (.int 0)
abbrev iz:E:=.not Rt
abbrev Ru:E:=cmp .lss (.int 99) (fn 1 (pr K0 (.int 17)))
abbrev Rv:E:=cmp .lss (fn 1 (pr K0 (.int 18))) (.int 0)
abbrev jH:E:=.not Rv
abbrev Rw:E:=cmp .lss (.int 99) (fn 1 (pr K0 (.int 18)))
abbrev Rx:E:=cmp .lss (fn 1 (pr K0 (.int 19))) (.int 0)
abbrev mf:E:=.not Rx
abbrev Ry:E:=cmp .lss (.int 99) (fn 1 (pr K0 (.int 19)))
abbrev RA:E:=cmp .lss (fn 1 (pr K0 (.int 27))) (.int 0)
abbrev pL:E:=.not RA
abbrev RB:E:=cmp .lss (.int 7) (fn 1 (pr K0 (.int 27)))
abbrev r9:E:=.not RB
abbrev RC:E:=cmp .lss (fn 1 (pr K0 (.int 28))) (.int 0)
abbrev vQ:E:=.not RC
abbrev RD:E:=cmp .lss (.int 255) (fn 1 (pr K0 (.int 28)))
abbrev HL:E:=.iff (var 3) sb
abbrev vR:E:=cmp .lss (var 1) (.int 0)
abbrev At:E:=.iff (.not vR) (.not (fn 103 (pr (fn 1 (pr K0 (.int 29))) (pr jI (fn 9 (pr (fn 1 (pr K0 (.int 29))) (.int 5)))))))
abbrev Au:E:=cmp .lss (var 2) (.int 0)
abbrev HM:E:=.iff (.not Au) (.not (fn 103 (pr (fn 1 (pr K0 (.int 30))) (pr Ax (fn 9 (pr (fn 1 (pr K0 (.int 30))) (.int 5)))))))
def ail:=fb [K1,K3] K4<|ap fun F p0 p1=>by
 simp only[aa,ae]at *
 obtain⟨a,b,c⟩:=ab ((1)-(E.I F (fn 1 (pr K0 (.int 34)))))
 omega
def Pn:=fb [K3,K6,K8] K4<|am fun F p0 p1 p2=>by
 simp only[aa,ae]at *
 obtain⟨a,b,c⟩:=ab ((1)-(E.I F (fn 1 (pr K0 (.int 34)))))
 omega
def aim:=fb ((.not K1)::Q8) Rr<|aK fun F p0 p1 p2 p3 p4=>by
 have g0:E.I F (fn 1 (pr K0 (.int 34)))=(1):=by
  simp only[aa]at *;omega
 have g1:E.I F _=E.I F (.int 2):=rfl;exact fV 1 2 22 (by decide) (by rfl) g0 g1
def ain:=fb (K2::HI) Rr<|aB fun F p0 p1 p2 p3=>by
 have g0:E.I F (fn 1 (pr K0 (.int 34)))=(1):=by
  simp only[aa,ae]at *
  obtain⟨a,b,c⟩:=ab ((1)-(E.I F (fn 1 (pr K0 (.int 34)))))
  omega
 have g1:E.I F _=E.I F (.int 2):=rfl;exact fV 1 2 22 (by decide) (by rfl) g0 g1
def aio:=fb (K1::pK) (fn 109 (pr (fn 1 (pr K0 (.int 8))) HJ))<|ap fun F p0 p1=>by
 have g0:=by
  simp only[aa]at *;omega
 have g1:E.I F _=E.I F (.int 2):=rfl;exact fV 0 2 8 (by decide) (by rfl) g0 g1
def aip:=fb Q8 RE<|aB fun F p0 p1 p2 p3=>by
 have g0:E.I F (fn 7 (pr (.int 1) (fn 1 (pr K0 (.int 34)))))=(1):=by
  simp only[aa,ae]at *
  obtain⟨a,b,c⟩:=ab ((1)-(E.I F (fn 1 (pr K0 (.int 34)))))
  omega
 have g1:E.I F _=E.I F (.int 2):=rfl;exact fV 1 2 22 (by decide) (by rfl) g0 g1
def aiq:=fb (K2::HI) RF<|aB fun F p0 p1 p2 p3=>by
 have g0:E.I F (fn 7 (pr (.int 1) (fn 1 (pr K0 (.int 34)))))=(0):=by
  simp only[aa,ae]at *
  obtain⟨a,b,c⟩:=ab ((1)-(E.I F (fn 1 (pr K0 (.int 34)))))
  omega
 have g1:E.I F _=E.I F (.int 2):=rfl;exact fV 0 2 8 (by decide) (by rfl) g0 g1
def air:=fb (K1::pK) RE<|ap fun F p0 p1=>by
 have g0:E.I F (fn 7 (pr (.int 1) (fn 1 (pr K0 (.int 34)))))=(1):=by
  simp only[aa]at *;omega
 have g1:E.I F _=E.I F (.int 2):=rfl;exact fV 1 2 22 (by decide) (by rfl) g0 g1
def ais:=fb (K1::K2::pK) RF<|am fun F p0 p1 p2=>by
 have g0:E.I F (fn 7 (pr (.int 1) (fn 1 (pr K0 (.int 34)))))=(0):=by
  simp only[aa,ae]at *
  obtain⟨a,b,c⟩:=ab ((1)-(E.I F (fn 1 (pr K0 (.int 34)))))
  omega
 have g1:E.I F _=E.I F (.int 2):=rfl;exact fV 0 2 8 (by decide) (by rfl) g0 g1
def Po:=fb pK (.not (cmp .lss (.int 30) (fn 0 (fn 1 (pr K0 (.int 31))))))<|ah fun F p0=>by
 have:=ak p0
 simp only[aa]at *;omega
def ait:=fa ((fn 111 (pr K0 (.int 0))))<|fun F=>by
 rfl
def aiu:=fa ((fn 113 (pr (fn 10 (.int 0)) (pr K0 (pr (.int 0) (.int 0))))))<|fun F=>by
 grind[aKg,ae7]
def aiv:=fb (sa::RG::RK::RH::RP) sd<|eS fun F p0 p1 p2 p3 p4 p5 p6 p7 p8 p9 ai=>by
 have:=fun a b c d hm=>@F7 F _ (fn 6 (pr dt (.int 1))) _ _ _ p6 a b p7 p8 c d ai hm
 simp only[aa]at *;grind
def Pp:=fb Av (.not (cmp .lss (.ar .add .i64 dt (.int 1)) (.int 0)))<|am fun F p0 p1 p2=>by
 have:=ak p0
 simp only[aa,ae]at *
 obtain⟨a,b,c⟩:=ab (E.I F dt+1)
 omega
def aiw:=fb (sa::(fn 32 (pr vS (pr (fn 1 (pr (fn 1 (pr K0 (.int 31))) dt)) jI)))::RP) sd<|di fun F p0 p1 p2 p3 p4 p5 p6 p7 p8=>by
 have:=fun a b c d hm=>@F7 F _ (fn 6 (pr dt (.int 1))) _ _ _ p4 a b p5 p6 c d p8 hm
 simp only[aa]at *;grind
def Pq:=fb pK (.not (cmp .lss (.int 30) (fn 9 (pr (fn 1 (pr K0 (.int 32))) (.int 2)))))<|ah fun F p0=>by
 have:=ak p0
 simp only[aa]at *;omega
def Pr:=fb Av (.not (cmp .lss (fn 0 (fn 1 (pr K0 (.int 31)))) (.ar .add .i64 dt (.int 1))))<|am fun F p0 p1 p2=>by
 simp only[aa,ae]at *
 obtain⟨a,b,c⟩:=ab (E.I F dt+1)
 omega
def aix:=fb ((.not sa)::K9::RM::RQ) Aw<|aB fun F p0 p1 p2 p3=>by
 have g0:E.I F (fn 0 (fn 1 (pr K0 (.int 31))))=E.I F dt:=by
  simp only[aa]at *;omega
 grind[aKe]
def aiy:=fb RR (fn 111 (pr K0 (.ar .add .i64 dt (.int 1))))<|jq fun F p0 p1 p2 p3 p4 p5 p6 p7 p8 p9 ai ao=>by
 have:=ak p7
 have:=@bH F dt (.int 1)
 have:=fun a b c d hm=>@F7 F _ (.ar .add .i64 dt (.int 1)) _ _ _ p6 a b p8 p9 c d ao hm
 simp only[aa]at *;grind
def aiz:=fa ((fn 112 (pr K0 (.int 0))))<|fun F=>by
 rfl
def aiA:=fb RR (fn 113 (pr (fn 34 (pr vS (pr (fn 1 (pr (fn 1 (pr K0 (.int 31))) dt)) Ax))) (pr K0 (pr (.ar .add .i64 dt (.int 1)) (.int 0)))))<|jq fun F p0 p1 p2 p3 p4 p5 p6 p7 p8 p9 ai ao=>by
 have:=ak p7
 have:=@bH F dt (.int 1)
 have:=fun a b c d hm=>@F7 F _ (.ar .add .i64 dt (.int 1)) _ _ _ p6 a b p8 p9 c d ao hm
 simp only[aa]at *;grind
def aiB:=fb ((.not sa)::K9::RL::RQ) (fn 113 (pr vS (pr K0 (pr (fn 0 (fn 1 (pr K0 (.int 31)))) (.int 0)))))<|aB fun F p0 p1 p2 p3=>by
 have g0:E.I F (fn 0 (fn 1 (pr K0 (.int 31))))=E.I F dt:=by
  simp only[aa]at *;omega
 grind[aKf]
def Ps:=fb Av (cmp .lss (fn 7 (pr (fn 0 (fn 1 (pr K0 (.int 31)))) (.ar .add .i64 dt (.int 1)))) (fn 7 (pr (fn 0 (fn 1 (pr K0 (.int 31)))) dt)))<|am fun F p0 p1 p2=>by
 have:=ak p0
 simp only[aa,ae]at *
 obtain⟨a,b,c⟩:=ab (E.I F dt+1)
 omega
def aiC:=fb (pM::HO::RV::RS::Ay) sd<|jq fun F p0 p1 p2 p3 p4 p5 p6 p7 p8 p9 ai ao=>by
 have hw:1<=E.I F _->E.I F _<=500->E.I F _=-(E.I F (fn 1 (pr (fn 1 (pr K0 (.int 32))) (fn 6 (pr (fn 8 (pr bY (.int 2))) (.int 0)))))):=ue
 have:=fun a b c d e hm=>@u6 F _ (fn 6 (pr bY (.int 1))) _ _ _ (.ar .sub .i64 (.int 0) (fn 1 (pr (fn 1 (pr K0 (.int 32))) (fn 6 (pr (fn 8 (pr bY (.int 2))) (.int 0)))))) ao a b p4 p6 p5 c d p8 hm _ _ rfl rfl e
 simp only[aa]at *;grind
def aiD:=fb Az (.not (cmp .lss (.ar .add .i64 bY (.int 1)) (.int 0)))<|am fun F p0 p1 p2=>by
 have:=ak p0
 simp only[aa,ae]at *
 obtain⟨a,b,c⟩:=ab (E.I F bY+1)
 omega
def aiE:=fb (pM::HO::QZ::RY::Ay) sd<|jq fun F p0 p1 p2 p3 p4 p5 p6 p7 p8 p9 ai ao=>by
 have hw:1<=E.I F _->E.I F _<=500->E.I F _=-(E.I F (fn 1 (pr (fn 1 (pr K0 (.int 32))) (fn 6 (pr (fn 8 (pr bY (.int 2))) (.int 0)))))):=ue
 have:=fun a b c d e hm=>@u6 F _ (fn 6 (pr bY (.int 1))) _ _ _ (.ar .sub .i64 (.int 0) (fn 1 (pr (fn 1 (pr K0 (.int 32))) (fn 6 (pr (fn 8 (pr bY (.int 2))) (.int 0)))))) ao a b p4 p6 p5 c d p8 hm _ _ rfl rfl e
 simp only[aa]at *;grind
def aiF:=fb (pM::(fn 32 (pr pN (pr (fn 1 (pr (fn 1 (pr K0 (.int 32))) (fn 6 (pr (fn 8 (pr bY (.int 2))) (.int 1))))) jI)))::(fn 32 (pr pN (pr (.ar .sub .i64 (.int 0) (fn 1 (pr (fn 1 (pr K0 (.int 32))) (fn 6 (pr (fn 8 (pr bY (.int 2))) (.int 0)))))) jI)))::Ay) sd<|eS fun F p0 p1 p2 p3 p4 p5 p6 p7 p8 p9 ai=>by
 have hw:1<=E.I F _->E.I F _<=500->E.I F _=-(E.I F (fn 1 (pr (fn 1 (pr K0 (.int 32))) (fn 6 (pr (fn 8 (pr bY (.int 2))) (.int 0)))))):=ue
 have:=fun a b c d e hm=>@u6 F _ (fn 6 (pr bY (.int 1))) _ _ _ (.ar .sub .i64 (.int 0) (fn 1 (pr (fn 1 (pr K0 (.int 32))) (fn 6 (pr (fn 8 (pr bY (.int 2))) (.int 0)))))) ai a b p3 p5 p4 c d p7 hm _ _ rfl rfl e
 simp only[aa]at *;grind
def aiG:=fb (pM::(.not (fn 32 (pr pN (pr (fn 1 (pr (fn 1 (pr K0 (.int 32))) (fn 6 (pr (fn 8 (pr bY (.int 2))) (.int 1))))) jI))))::Ay) sd<|eR fun F p0 p1 p2 p3 p4 p5 p6 p7 p8 p9=>by
 have hw:1<=E.I F _->E.I F _<=500->E.I F _=-(E.I F (fn 1 (pr (fn 1 (pr K0 (.int 32))) (fn 6 (pr (fn 8 (pr bY (.int 2))) (.int 0)))))):=ue
 have:=fun a b c d e hm=>@u6 F _ (fn 6 (pr bY (.int 1))) _ _ _ (.ar .sub .i64 (.int 0) (fn 1 (pr (fn 1 (pr K0 (.int 32))) (fn 6 (pr (fn 8 (pr bY (.int 2))) (.int 0)))))) p9 a b p2 p4 p3 c d p6 hm _ _ rfl rfl e
 simp only[aa]at *;grind
def aiH:=fb [(.not pM),HP,Aw,(.not (cmp .lss (fn 9 (pr (fn 1 (pr K0 (.int 32))) (.int 2))) bY))] (.iff Ax HN)<|aB fun F p0 p1 p2 p3=>by
 have:=@aLp F _ _ p2 p1
 simp only[aa]at *;grind
def Pt:=fb Av (.not (cmp .lss (fn 7 (pr (fn 0 (fn 1 (pr K0 (.int 31)))) (.ar .add .i64 dt (.int 1)))) (.int 0)))<|am fun F p0 p1 p2=>by
 simp only[aa,ae]at *
 obtain⟨a,b,c⟩:=ab (E.I F dt+1)
 omega
def aiI:=fb Az (.not (cmp .lss (fn 9 (pr (fn 1 (pr K0 (.int 32))) (.int 2))) (.ar .add .i64 bY (.int 1))))<|am fun F p0 p1 p2=>by
 simp only[aa,ae]at *
 obtain⟨a,b,c⟩:=ab (E.I F bY+1)
 omega
def aiJ:=fb Q0 (fn 112 (pr K0 (.ar .add .i64 bY (.int 1))))<|qT fun F p0 p1 p2 p3 p4 p5 p6 p7 p8 p9 ai ao aq ax aA aC=>by
 have:=ak aC
 have:=@bH F bY (.int 1)
 have hw:1<=E.I F _->E.I F _<=500->E.I F _=-(E.I F (fn 1 (pr (fn 1 (pr K0 (.int 32))) (fn 6 (pr (fn 8 (pr bY (.int 2))) (.int 0)))))):=ue
 have:=fun a b c d e hm=>@u6 F _ (.ar .add .i64 bY (.int 1)) _ _ _ (.ar .sub .i64 (.int 0) (fn 1 (pr (fn 1 (pr K0 (.int 32))) (fn 6 (pr (fn 8 (pr bY (.int 2))) (.int 0)))))) aA a b p7 p9 p8 c d ao hm _ _ rfl rfl e
 simp only[aa]at *;grind
def aiK:=fb Q0 (fn 113 (pr (fn 34 (pr (fn 34 (pr pN (pr (fn 1 (pr (fn 1 (pr K0 (.int 32))) (fn 6 (pr (fn 8 (pr bY (.int 2))) (.int 1))))) jI))) (pr (.ar .sub .i64 (.int 0) (fn 1 (pr (fn 1 (pr K0 (.int 32))) (fn 6 (pr (fn 8 (pr bY (.int 2))) (.int 0)))))) Ax))) (pr K0 (pr (fn 0 (fn 1 (pr K0 (.int 31)))) (.ar .add .i64 bY (.int 1))))))<|qT fun F p0 p1 p2 p3 p4 p5 p6 p7 p8 p9 ai ao aq ax aA aC=>by
 have:=ak aC
 have:=@bH F bY (.int 1)
 have hw:1<=E.I F _->E.I F _<=500->E.I F _=-(E.I F (fn 1 (pr (fn 1 (pr K0 (.int 32))) (fn 6 (pr (fn 8 (pr bY (.int 2))) (.int 0)))))):=ue
 have:=fun a b c d e hm=>@u6 F _ (.ar .add .i64 bY (.int 1)) _ _ _ (.ar .sub .i64 (.int 0) (fn 1 (pr (fn 1 (pr K0 (.int 32))) (fn 6 (pr (fn 8 (pr bY (.int 2))) (.int 0)))))) aA a b p7 p9 p8 c d ao hm _ _ rfl rfl e
 simp only[aa]at *;grind
def aiL:=fb Az (cmp .lss (fn 7 (pr (fn 9 (pr (fn 1 (pr K0 (.int 32))) (.int 2))) (.ar .add .i64 bY (.int 1)))) (fn 7 (pr (fn 9 (pr (fn 1 (pr K0 (.int 32))) (.int 2))) bY)))<|am fun F p0 p1 p2=>by
 have:=ak p0
 simp only[aa,ae]at *
 obtain⟨a,b,c⟩:=ab (E.I F bY+1)
 omega
def aiM:=fb Az (.not (cmp .lss (fn 7 (pr (fn 9 (pr (fn 1 (pr K0 (.int 32))) (.int 2))) (.ar .add .i64 bY (.int 1)))) (.int 0)))<|am fun F p0 p1 p2=>by
 simp only[aa,ae]at *
 obtain⟨a,b,c⟩:=ab (E.I F bY+1)
 omega
def bn:List Fa:=[ail,Pn,aim,ain,aio,aip,aiq,air,ais,Qo,Qh,Po,ait,aiu,aiv,Pp,aiw,Pq,Pr,aix,aiy,aiz,aiA,aiB,Ps,aiC,aiD,aiE,aiF,aiG,aiH,Pt,aiI,aiJ,aiK,aiL,aiM]
theorem aIQ:aR Tryz.prog (bj (aIe)):=sc bn (aC8) acF ([]) (by kernel_rfl) (by kernel_rfl)
def acH:Nl:=nc aIQ acF
def aiN:=fb [K7] b7<|ah fun F p0=>by
 have:=@bQ F K0
 simp only[aa]at *;grind
def aiO:=fb [K8,K6,Q1] b7<|am fun F p0 p1 p2=>by
 have:=@bQ F K0
 simp only[aa]at *;grind
def aiP:=fb [K8,K6,cu,cx,Q3] b7<|aK fun F p0 p1 p2 p3 p4=>by
 have:=@bQ F K0
 simp only[aa]at *;grind
def aiQ:=fb [K8,K6,cu,cx,cA,cD,Q5] b7<|cV fun F p0 p1 p2 p3 p4 p5 p6=>by
 have:=@bQ F K0
 simp only[aa]at *;grind
def aiR:=fb [K8,K6,cu,cx,cA,cD,cH,cK,Q7] b7<|di fun F p0 p1 p2 p3 p4 p5 p6 p7 p8=>by
 have:=@bQ F K0
 simp only[aa]at *;grind
def aiS:=fb [K9,(cmp .lss (.int 200) (fn 9 (pr (fn 1 (pr K0 (.int 30))) (.int 5))))] b7<|ap fun F p0 p1=>by
 have:=ak p0
 simp only[aa]at *;grind
def aiT:=fb [K9,K8,K6,cu,cx,cA,cD,cH,cK,cN,cS,Ra] b7<|jq fun F p0 p1 p2 p3 p4 p5 p6 p7 p8 p9 ai ao=>by
 have:=@bQ F K0
 simp only[aa]at *;grind
def aiU:=fb [K9,K8,K6,cu,cx,cA,cD,cH,cK,cN,cS,cZ,dd,dl,Rd] b7<|tB fun F p0 p1 p2 p3 p4 p5 p6 p7 p8 p9 ai ao aq ax aA=>by
 have:=@bQ F K0
 simp only[aa]at *;grind
def aiV:=fb [K9,K8,K6,cu,cx,cA,cD,cH,cK,cN,cS,cZ,dd,dl,dE,Rf] b7<|qT fun F p0 p1 p2 p3 p4 p5 p6 p7 p8 p9 ai ao aq ax aA aC=>by
 have:=@bQ F K0
 simp only[aa]at *;grind
def aiW:=fb [K9,K8,K6,cu,cx,cA,cD,cH,cK,cN,cS,cZ,dd,dl,dE,dJ,Rh] b7<|tC fun F p0 p1 p2 p3 p4 p5 p6 p7 p8 p9 ai ao aq ax aA aC aL=>by
 have:=@bQ F K0
 simp only[aa]at *;grind
def aiX:=fb [K9,K8,K6,cu,cx,cA,cD,cH,cK,cN,cS,cZ,dd,dl,dE,dJ,dY,Rj] b7<|eZ fun F p0 p1 p2 p3 p4 p5 p6 p7 p8 p9 ai ao aq ax aA aC aL aN=>by
 have:=@bQ F K0
 simp only[aa]at *;grind
def aiY:=fb [K9,K8,K6,cu,cx,cA,cD,cH,cK,cN,cS,cZ,dd,dl,dE,dJ,dY,Rk] b7<|eZ fun F p0 p1 p2 p3 p4 p5 p6 p7 p8 p9 ai ao aq ax aA aC aL aN=>by
 have:=@bQ F K0
 simp only[aa]at *;grind
def aiZ:=fb [K9,K8,K6,cu,cx,cA,cD,cH,cK,cN,cS,cZ,dd,dl,dE,dJ,dY,eB,eJ,Rm] b7<|abz fun F p0 p1 p2 p3 p4 p5 p6 p7 p8 p9 ai ao aq ax aA aC aL aN bn bw=>by
 have:=@bQ F K0
 simp only[aa]at *;grind
def ai0:=fb [K9,K8,K6,cu,cx,cA,cD,cH,cK,cN,cS,cZ,dd,dl,dE,dJ,dY,eB,eJ,eX,Rn] b7<|abA fun F p0 p1 p2 p3 p4 p5 p6 p7 p8 p9 ai ao aq ax aA aC aL aN bn bw bC=>by
 have:=@bQ F K0
 simp only[aa]at *;grind
def ai1:=fb [K9,K8,K6,cu,cx,cA,cD,cH,cK,cN,cS,cZ,dd,dl,dE,dJ,dY,eB,eJ,eX,Ro] b7<|abA fun F p0 p1 p2 p3 p4 p5 p6 p7 p8 p9 ai ao aq ax aA aC aL aN bn bw bC=>by
 have:=@bQ F K0
 simp only[aa]at *;grind
def ai2:=fb [K9,K8,K6,cu,cx,cA,cD,cH,cK,cN,cS,cZ,dd,dl,dE,dJ,dY,eB,eJ,eX,fL,fY,gx,Rs] b7<|Lp fun F p0 p1 p2 p3 p4 p5 p6 p7 p8 p9 ai ao aq ax aA aC aL aN bn bw bC bG bO bV=>by
 have:=@bQ F K0
 simp only[aa]at *;grind
def ai3:=fb [K9,K8,K6,cu,cx,cA,cD,cH,cK,cN,cS,cZ,dd,dl,dE,dJ,dY,eB,eJ,eX,fL,fY,gx,iz,Ru] b7<|abB fun F p0 p1 p2 p3 p4 p5 p6 p7 p8 p9 ai ao aq ax aA aC aL aN bn bw bC bG bO bV co=>by
 have:=@bQ F K0
 simp only[aa]at *;grind
def ai4:=fb [K9,K8,K6,cu,cx,cA,cD,cH,cK,cN,cS,cZ,dd,dl,dE,dJ,dY,eB,eJ,eX,fL,fY,gx,iz,jH,Rw] b7<|abC fun F p0 p1 p2 p3 p4 p5 p6 p7 p8 p9 ai ao aq ax aA aC aL aN bn bw bC bG bO bV co cp=>by
 have:=@bQ F K0
 simp only[aa]at *;grind
def ai5:=fb [K9,K8,K6,cu,cx,cA,cD,cH,cK,cN,cS,cZ,dd,dl,dE,dJ,dY,eB,eJ,eX,fL,fY,gx,iz,jH,mf,Ry] b7<|yj fun F p0 p1 p2 p3 p4 p5 p6 p7 p8 p9 ai ao aq ax aA aC aL aN bn bw bC bG bO bV co cp cQ=>by
 have:=@bQ F K0
 simp only[aa]at *;grind
def ai6:=fb [K9,K8,K6,cu,cx,cA,cD,cH,cK,cN,cS,cZ,dd,dl,dE,dJ,dY,eB,eJ,eX,fL,fY,gx,iz,jH,mf,RA] b7<|yj fun F p0 p1 p2 p3 p4 p5 p6 p7 p8 p9 ai ao aq ax aA aC aL aN bn bw bC bG bO bV co cp cQ=>by
 have:=@bQ F K0
 simp only[aa]at *;grind
def ai7:=fb [K9,K8,K6,cu,cx,cA,cD,cH,cK,cN,cS,cZ,dd,dl,dE,dJ,dY,eB,eJ,eX,fL,fY,gx,iz,jH,mf,pL,r9,RC] b7<|aFv fun F p0 p1 p2 p3 p4 p5 p6 p7 p8 p9 ai ao aq ax aA aC aL aN bn bw bC bG bO bV co cp cQ dH d6=>by
 have:=@bQ F K0
 simp only[aa]at *;grind
def ai8:=fb [K9,K8,K6,cu,cx,cA,cD,cH,cK,cN,cS,cZ,dd,dl,dE,dJ,dY,eB,eJ,eX,fL,fY,gx,iz,jH,mf,pL,r9,vQ,RD] b7<|aFw fun F p0 p1 p2 p3 p4 p5 p6 p7 p8 p9 ai ao aq ax aA aC aL aN bn bw bC bG bO bV co cp cQ dH d6 eU=>by
 have:=@bQ F K0
 simp only[aa]at *;grind
def ai9:=fb [HL,(var 3)] sb<|ap fun F p0 p1=>by
 simp_all
def aja:=fb [K9,K8,K6,cu,cx,cA,cD,cH,cK,cN,cS,cZ,dd,dl,dE,dJ,dY,eB,eJ,eX,fL,fY,gx,iz,jH,mf,pL,r9,vQ,At,vR,HM,Au,HL,(.not (var 3))] b7<|aFy fun F p0 p1 p2 p3 p4 p5 p6 p7 p8 p9 ai ao aq ax aA aC aL aN bn bw bC bG bO bV co cp cQ dH d6 eU fT iV im lC lD=>by
 have:=@bQ F K0
 simp_all
def ajb:=fb [K9,K8,K6,cu,cx,cA,cD,cH,cK,cN,cS,cZ,dd,dl,dE,dJ,dY,eB,eJ,eX,fL,fY,gx,iz,jH,mf,pL,r9,vQ,At,vR,HM,(.not Au)] b7<|aFx fun F p0 p1 p2 p3 p4 p5 p6 p7 p8 p9 ai ao aq ax aA aC aL aN bn bw bC bG bO bV co cp cQ dH d6 eU fT iV im=>by
 have:=@bQ F K0
 simp_all
def ajc:=fb [K9,K8,K6,cu,cx,cA,cD,cH,cK,cN,cS,cZ,dd,dl,dE,dJ,dY,eB,eJ,eX,fL,fY,gx,iz,jH,mf,pL,r9,vQ,At,(.not vR)] b7<|abD fun F p0 p1 p2 p3 p4 p5 p6 p7 p8 p9 ai ao aq ax aA aC aL aN bn bw bC bG bO bV co cp cQ dH d6 eU fT=>by
 have:=@bQ F K0
 simp_all
def ajd:=fb [K9,K8,K6,cu,cx,cA,cD,cH,cK,cN,cS,cZ,dd,dl,dE,dJ,dY,eB,eJ,eX,fL,fY,gx,iz,jH,mf,pL,RB] b7<|aFu fun F p0 p1 p2 p3 p4 p5 p6 p7 p8 p9 ai ao aq ax aA aC aL aN bn bw bC bG bO bV co cp cQ dH=>by
 have:=@bQ F K0
 simp only[aa]at *;grind
def aje:=fb [K9,K8,K6,cu,cx,cA,cD,cH,cK,cN,cS,cZ,dd,dl,dE,dJ,dY,eB,eJ,eX,fL,fY,gx,iz,jH,Rx] b7<|abC fun F p0 p1 p2 p3 p4 p5 p6 p7 p8 p9 ai ao aq ax aA aC aL aN bn bw bC bG bO bV co cp=>by
 have:=@bQ F K0
 simp only[aa]at *;grind
def ajf:=fb [K9,K8,K6,cu,cx,cA,cD,cH,cK,cN,cS,cZ,dd,dl,dE,dJ,dY,eB,eJ,eX,fL,fY,gx,iz,Rv] b7<|abB fun F p0 p1 p2 p3 p4 p5 p6 p7 p8 p9 ai ao aq ax aA aC aL aN bn bw bC bG bO bV co=>by
 have:=@bQ F K0
 simp only[aa]at *;grind
def ajg:=fb [K9,K8,K6,cu,cx,cA,cD,cH,cK,cN,cS,cZ,dd,dl,dE,dJ,dY,eB,eJ,eX,fL,fY,gx,Rt] b7<|Lp fun F p0 p1 p2 p3 p4 p5 p6 p7 p8 p9 ai ao aq ax aA aC aL aN bn bw bC bG bO bV=>by
 have:=@bQ F K0
 simp only[aa]at *;grind
def ajh:=fb [K9,K8,K6,cu,cx,cA,cD,cH,cK,cN,cS,cZ,dd,dl,dE,dJ,dY,eB,eJ,eX,fL,fY,Rq] b7<|aFt fun F p0 p1 p2 p3 p4 p5 p6 p7 p8 p9 ai ao aq ax aA aC aL aN bn bw bC bG bO=>by
 have:=@bQ F K0
 simp only[aa]at *;grind
def aji:=fb [K9,K8,K6,cu,cx,cA,cD,cH,cK,cN,cS,cZ,dd,dl,dE,dJ,dY,eB,eJ,eX,fL,fY,gx,iz,jH,mf,pL,r9,vQ,At,vR,HM,Au,HL,(var 3),(.iff (var 4) HN),(.not Rd),(.not Rf),(.not Rh),(.not Rj),(.not Rn),(.not Rs),(.not Ru),(.not Rw),(.not Ry),(.not RD)] (.iff (var 4) (fn 115 K0))<|aFA fun F p0 p1 p2 p3 p4 p5 p6 p7 p8 p9 ai ao aq ax aA aC aL aN bn bw bC bG bO bV co cp cQ dH d6 eU fT iV im lC lD ri rj rk rl rm rn ro rp rq pi EM=>by
 have:=ak p0
 have:=@bQ F K0
 simp only[aa]at *;grind
def ajj:=fb [K9,K8,K6,cu,cx,cA,cD,cH,cK,cN,cS,cZ,dd,dl,dE,dJ,dY,eB,eJ,eX,fL,Rp] b7<|aFs fun F p0 p1 p2 p3 p4 p5 p6 p7 p8 p9 ai ao aq ax aA aC aL aN bn bw bC bG=>by
 have:=@bQ F K0
 simp only[aa]at *;grind
def ajk:=fb [K9,K8,K6,cu,cx,cA,cD,cH,cK,cN,cS,cZ,dd,dl,dE,dJ,dY,eB,Rl] b7<|DE fun F p0 p1 p2 p3 p4 p5 p6 p7 p8 p9 ai ao aq ax aA aC aL aN bn=>by
 have:=@bQ F K0
 simp only[aa]at *;grind
def ajl:=fb [K9,K8,K6,cu,cx,cA,cD,cH,cK,cN,cS,cZ,dd,dl,dE,dJ,Ri] b7<|tC fun F p0 p1 p2 p3 p4 p5 p6 p7 p8 p9 ai ao aq ax aA aC aL=>by
 have:=@bQ F K0
 simp only[aa]at *;grind
def ajm:=fb [K9,K8,K6,cu,cx,cA,cD,cH,cK,cN,cS,cZ,dd,dl,dE,Rg] b7<|qT fun F p0 p1 p2 p3 p4 p5 p6 p7 p8 p9 ai ao aq ax aA aC=>by
 have:=@bQ F K0
 simp only[aa]at *;grind
def ajn:=fb [K9,K8,K6,cu,cx,cA,cD,cH,cK,cN,cS,cZ,dd,dl,Re] b7<|tB fun F p0 p1 p2 p3 p4 p5 p6 p7 p8 p9 ai ao aq ax aA=>by
 have:=@bQ F K0
 simp only[aa]at *;grind
def ajo:=fb [K9,K8,K6,cu,cx,cA,cD,cH,cK,cN,cS,cZ,dd,Rc] b7<|DD fun F p0 p1 p2 p3 p4 p5 p6 p7 p8 p9 ai ao aq ax=>by
 have:=@bQ F K0
 simp only[aa]at *;grind
def ajp:=fb [K9,K8,K6,cu,cx,cA,cD,cH,cK,cN,cS,cZ,Rb] b7<|jr fun F p0 p1 p2 p3 p4 p5 p6 p7 p8 p9 ai ao aq=>by
 have:=@bQ F K0
 simp only[aa]at *;grind
def ajq:=fb [K9,(cmp .lss (.int 200) (fn 9 (pr (fn 1 (pr K0 (.int 29))) (.int 5))))] b7<|ap fun F p0 p1=>by
 have:=ak p0
 simp only[aa]at *;grind
def ajr:=fb [K9,(cmp .lss (.int 500) (fn 9 (pr (fn 1 (pr K0 (.int 0))) (.int 12))))] b7<|ap fun F p0 p1=>by
 have:=ak p0
 simp only[aa]at *;grind
def ajs:=fb [K8,K6,cu,cx,cA,cD,cH,cK,cN,Q9] b7<|eR fun F p0 p1 p2 p3 p4 p5 p6 p7 p8 p9=>by
 have:=@bQ F K0
 simp only[aa]at *;grind
def ajt:=fb [K8,K6,cu,cx,cA,cD,cH,Q6] b7<|c9 fun F p0 p1 p2 p3 p4 p5 p6 p7=>by
 have:=@bQ F K0
 simp only[aa]at *;grind
def aju:=fb [K8,K6,cu,cx,cA,Q4] b7<|bL fun F p0 p1 p2 p3 p4 p5=>by
 have:=@bQ F K0
 simp only[aa]at *;grind
def ajv:=fb [K8,K6,cu,Q2] b7<|aB fun F p0 p1 p2 p3=>by
 have:=@bQ F K0
 simp only[aa]at *;grind
def ajw:=fb [K8,K5] b7<|ap fun F p0 p1=>by
 have:=@bQ F K0
 simp only[aa]at *;grind
def bw:List Fa:=[aiN,aiO,aiP,aiQ,aiR,aiS,aiT,aiU,aiV,aiW,aiX,aiY,aiZ,ai0,ai1,ai2,ai3,ai4,ai5,ai6,ai7,ai8,ai9,aja,ajb,ajc,ajd,aje,ajf,ajg,ajh,aji,ajj,ajk,ajl,ajm,ajn,ajo,ajp,ajq,ajr,ajs,ajt,aju,ajv,ajw]
theorem aIR:aR Tryz.prog (bj (spV)):=sc bw ([]) acH ([]) (by kernel_rfl) (by kernel_rfl)
def acI:Nl:=nc aIR acH
end
end Go.Proofs.YtnggbcblogpnfaaGreat.combatAttacks
