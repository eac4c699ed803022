/-
  CombatDamages: contracts of functions, part 6.
-/
import Derived.Test.YtnggbcblogpnfaaGreatCombatDamagesParte
namespace Go.Proofs.YtnggbcblogpnfaaGreat.combatDamages
open Go.ChangeShapes Go.WideShapes Go.ChangeAt Go.RowKit
open Go.SX
open Go.SX.E (fn pr cmp var)
set_option linter.unusedVariables false
set_option linter.unusedSimpArgs false
set_option maxRecDepth 100000
noncomputable section
abbrev K0:E:=var 0
abbrev K1:E:=cmp .eql (fn 1 (pr K0 (.int 34))) (.int 0)
abbrev K2:E:=cmp .eql (.ar .sub .i64 (.int 1) (fn 1 (pr K0 (.int 34)))) (.int 0)
abbrev K3:E:=.not K2
abbrev K4:E:=cmp .eql (.ar .sub .i64 (.int 1) (fn 1 (pr K0 (.int 34)))) (.int 1)
abbrev K5:E:=cmp .lss (.int 1) (fn 1 (pr K0 (.int 34)))
abbrev K6:E:=.not K5
abbrev K7:E:=cmp .lss (fn 1 (pr K0 (.int 34))) (.int 0)
abbrev K8:E:=.not K7
abbrev K9:E:=fn 117 K0
abbrev qN:=[K9]
abbrev K11:=K8::qN
abbrev HM:=K6::K11
abbrev QN:=K3::HM
abbrev HN:E:=pr K0 (pr (fn 1 (pr K0 (.int 34))) (.int 2))
abbrev K15:E:=pr (fn 1 (pr K0 (.int 22))) HN
abbrev Q7:E:=fn 109 K15
abbrev HO:E:=pr K0 (pr (fn 7 (pr (.int 1) (fn 1 (pr K0 (.int 34))))) (.int 2))
abbrev K18:E:=pr (fn 1 (pr K0 (.int 22))) HO
abbrev Rj:E:=fn 109 K18
abbrev K20:E:=pr (fn 1 (pr K0 (.int 8))) HO
abbrev Rk:E:=fn 109 K20
abbrev ez:E:=var 8
abbrev tE:E:=cmp .lss ez (fn 0 (fn 1 (pr K0 (.int 31))))
abbrev wV:E:=var 9
abbrev lj:E:=.bool false
abbrev Rl:E:=.not (fn 32 (pr wV (pr (fn 1 (pr (fn 1 (pr K0 (.int 31))) ez)) lj)))
abbrev Rm:E:=cmp .lss (var 12) (.int 0)
abbrev Rn:E:=.not Rm
abbrev Ro:E:=var 10
abbrev K30:E:=pr Ro (fn 1 (pr (fn 1 (pr K0 (.int 31))) ez))
abbrev K31:E:=fn 114 K30
abbrev Rp:E:=.iff Rn K31
abbrev tF:E:=fn 108 K0
abbrev K34:E:=pr ez (.int 0)
abbrev K35:E:=pr K0 K34
abbrev K36:E:=pr wV K35
abbrev Rq:E:=fn 113 K36
abbrev K38:E:=pr K0 ez
abbrev Rr:E:=fn 111 K38
abbrev K40:E:=cmp .lss ez (.int 0)
abbrev Rs:E:=.not K40
abbrev K42:E:=pr Ro HN
abbrev K43:E:=fn 109 K42
abbrev K44:=[K43]
abbrev K45:=Rs::K44
abbrev K46:=Rr::K45
abbrev Rt:=Rq::K46
abbrev K48:=tF::Rt
abbrev K49:=K8::K48
abbrev Ru:=K6::K49
abbrev HR:E:=fn 110 K0
abbrev tG:E:=.iff lj HR
abbrev K53:=[Rs]
abbrev K54:=tE::K53
abbrev AW:=K9::K54
abbrev K56:E:=cmp .lss (fn 0 (fn 1 (pr K0 (.int 31)))) ez
abbrev K57:E:=.not K56
abbrev Rv:=[K57]
abbrev AX:E:=fn 111 (pr K0 (fn 0 (fn 1 (pr K0 (.int 31)))))
abbrev K60:=K9::Rt
abbrev K61:=tF::K60
abbrev K62:=K8::K61
abbrev K63:=K6::K62
abbrev K64:=Rn::K63
abbrev K65:=Rp::K64
abbrev K66:=Rl::K65
abbrev Rw:=tE::K66
abbrev AY:E:=.bool true
abbrev cx:E:=var 16
abbrev qP:E:=cmp .lss cx (fn 9 (pr (fn 1 (pr K0 (.int 32))) (.int 2)))
abbrev qQ:E:=var 17
abbrev HS:E:=.not (fn 32 (pr qQ (pr (.ar .sub .i64 (.int 0) (fn 1 (pr (fn 1 (pr K0 (.int 32))) (fn 6 (pr (fn 8 (pr cx (.int 2))) (.int 0)))))) lj)))
abbrev Rx:E:=cmp .lss (var 21) (.int 0)
abbrev Ry:E:=.not Rx
abbrev RA:E:=var 19
abbrev K76:E:=pr RA (fn 1 (pr (fn 1 (pr K0 (.int 32))) (fn 6 (pr (fn 8 (pr cx (.int 2))) (.int 0)))))
abbrev K77:E:=fn 114 K76
abbrev RB:E:=.iff Ry K77
abbrev K79:E:=pr (fn 0 (fn 1 (pr K0 (.int 31)))) cx
abbrev K80:E:=pr K0 K79
abbrev K81:E:=pr qQ K80
abbrev RC:E:=fn 113 K81
abbrev HT:E:=fn 112 (pr K0 cx)
abbrev K84:E:=cmp .lss cx (.int 0)
abbrev HU:E:=.not K84
abbrev K86:E:=pr RA HO
abbrev RD:E:=fn 109 K86
abbrev K88:=[K8,tF]
abbrev K89:=K6::K88
abbrev K90:=RD::K89
abbrev K91:=HU::K90
abbrev K92:=AX::K91
abbrev K93:=HT::K92
abbrev AZ:=RC::K93
abbrev K95:=[HU]
abbrev K96:=qP::K95
abbrev A0:=K9::K96
abbrev RE:E:=cmp .lss (var 20) (.int 0)
abbrev RF:E:=.not RE
abbrev aud:E:=pr (fn 1 (pr K0 (.int 31))) (fn 1 (pr (fn 1 (pr K0 (.int 32))) (fn 6 (pr (fn 8 (pr cx (.int 2))) (.int 1)))))
abbrev aue:E:=fn 114 aud
abbrev QD:E:=.iff RF aue
abbrev auf:=RD::K6::K8::tF::qN
abbrev aug:=HU::auf
abbrev auh:=AX::aug
abbrev aui:=HT::auh
abbrev auj:=RC::aui
abbrev auk:=Ry::auj
abbrev aul:=RB::auk
abbrev aum:=RF::aul
abbrev aun:=QD::aum
abbrev auo:=HS::aun
abbrev aup:List E:=(fn 32 (pr qQ (pr (fn 1 (pr (fn 1 (pr K0 (.int 32))) (fn 6 (pr (fn 8 (pr cx (.int 2))) (.int 1))))) lj)))::auo
abbrev QF:=qP::aup
abbrev cD:E:=.iff lj (fn 115 K0)
abbrev QG:E:=cmp .lss (fn 1 (pr K0 (.int 33))) (.int 0)
abbrev cY:E:=.not QG
abbrev QH:E:=cmp .lss (.int 1000) (fn 1 (pr K0 (.int 33)))
abbrev da:E:=.not QH
abbrev QI:E:=cmp .lss (fn 1 (pr K0 (.int 35))) (.int 0)
abbrev de:E:=.not QI
abbrev QJ:E:=cmp .lss (.int 10) (fn 1 (pr K0 (.int 35)))
abbrev di:E:=.not QJ
abbrev QK:E:=cmp .lss (fn 1 (pr K0 (.int 36))) (.int (-1))
abbrev dy:E:=.not QK
abbrev QL:E:=cmp .lss (.int 1) (fn 1 (pr K0 (.int 36)))
abbrev dB:E:=.not QL
abbrev QM:E:=cmp .lss (fn 1 (pr K0 (.int 37))) (.int 0)
abbrev dE:E:=.not QM
abbrev QO:E:=cmp .lss (.int 2) (fn 1 (pr K0 (.int 37)))
abbrev dK:E:=.not QO
abbrev QP:E:=cmp .lss (fn 1 (pr K0 (.int 1))) (.int 0)
abbrev dN:E:=.not QP
abbrev QQ:E:=cmp .lss (.int 9999) (fn 1 (pr K0 (.int 1)))
abbrev dP:E:=.not QQ
abbrev QS:E:=cmp .lss (fn 1 (pr K0 (.int 2))) (.int 0)
abbrev dX:E:=.not QS
abbrev QT:E:=cmp .lss (.int 99) (fn 1 (pr K0 (.int 2)))
abbrev QU:E:=cmp .lss (fn 1 (pr K0 (.int 3))) (.int 0)
abbrev eG:E:=.not QU
abbrev QV:E:=cmp .lss (.int 99) (fn 1 (pr K0 (.int 3)))
abbrev QW:E:=cmp .lss (fn 1 (pr K0 (.int 4))) (.int 0)
abbrev eQ:E:=.not QW
abbrev QX:E:=cmp .lss (.int 99) (fn 1 (pr K0 (.int 4)))
abbrev QY:E:=cmp .lss (fn 1 (pr K0 (.int 5))) (.int 0)
abbrev fy:E:=.not QY
abbrev QZ:E:=cmp .lss (.int 99) (fn 1 (pr K0 (.int 5)))
abbrev Q0:E:=cmp .lss (fn 1 (pr K0 (.int 13))) (.int 0)
abbrev fU:E:=.not Q0
abbrev Q1:E:=cmp .lss (.int 7) (fn 1 (pr K0 (.int 13)))
abbrev gc:E:=.not Q1
abbrev Q2:E:=cmp .lss (fn 1 (pr K0 (.int 14))) (.int 0)
abbrev gk:E:=.not Q2
abbrev Q3:E:=cmp .lss (.int 255) (fn 1 (pr K0 (.int 14)))
abbrev Q4:E:=cmp .lss (fn 1 (pr K0 (.int 15))) (.int 0)
abbrev gT:E:=.not Q4
abbrev Q5:E:=cmp .lss (.int 9999) (fn 1 (pr K0 (.int 15)))
abbrev ie:E:=.not Q5
abbrev Q6:E:=cmp .lss (fn 1 (pr K0 (.int 16))) (.int 0)
abbrev iK:E:=.not Q6
abbrev Q8:E:=cmp .lss (.int 99) (fn 1 (pr K0 (.int 16)))
abbrev Q9:E:=cmp .lss (fn 1 (pr K0 (.int 17))) (.int 0)
abbrev jv:E:=.not Q9
abbrev Ra:E:=cmp .lss (.int 99) (fn 1 (pr K0 (.int 17)))
abbrev Rb:E:=cmp .lss (fn 1 (pr K0 (.int 18))) (.int 0)
abbrev lh:E:=.not Rb
abbrev Rc:E:=cmp .lss (.int 99) (fn 1 (pr K0 (.int 18)))
abbrev Rd:E:=cmp .lss (fn 1 (pr K0 (.int 19))) (.int 0)
abbrev nD:E:=.not Rd
abbrev Re:E:=cmp .lss (.int 99) (fn 1 (pr K0 (.int 19)))
abbrev Rf:E:=cmp .lss (fn 1 (pr K0 (.int 27))) (.int 0)
abbrev qO:E:=.not Rf
abbrev Rg:E:=cmp .lss (.int 7) (fn 1 (pr K0 (.int 27)))
abbrev tD:E:=.not Rg
abbrev Rh:E:=cmp .lss (fn 1 (pr K0 (.int 28))) (.int 0)
abbrev wT:E:=.not Rh
abbrev Ri:E:=cmp .lss (.int 255) (fn 1 (pr K0 (.int 28)))
abbrev HP:E:=.iff (var 3) tF
abbrev wU:E:=cmp .lss (var 1) (.int 0)
abbrev AU:E:=.iff (.not wU) (.not (fn 103 (pr (fn 1 (pr K0 (.int 29))) (pr lj (fn 9 (pr (fn 1 (pr K0 (.int 29))) (.int 5)))))))
abbrev AV:E:=cmp .lss (var 2) (.int 0)
abbrev HQ:E:=.iff (.not AV) (.not (fn 103 (pr (fn 1 (pr K0 (.int 30))) (pr AY (fn 9 (pr (fn 1 (pr K0 (.int 30))) (.int 5)))))))
def aha:=fb [K1,K3] K4<|au fun ρ p0 p1=>by
 simp only[aa,ae]at *
 obtain⟨a,b,c⟩:=ab ((1)-(E.I ρ (fn 1 (pr K0 (.int 34)))))
 omega
def Pk:=fb [K3,K6,K8] K4<|ay fun ρ p0 p1 p2=>by
 simp only[aa,ae]at *
 obtain⟨a,b,c⟩:=ab ((1)-(E.I ρ (fn 1 (pr K0 (.int 34)))))
 omega
def ahb:=fb ((.not K1)::QN) Q7<|bl fun ρ p0 p1 p2 p3 p4=>by
 have g0:E.I ρ (fn 1 (pr K0 (.int 34)))=(1):=by
  simp only[aa]at *;omega
 have g1:E.I ρ _=E.I ρ (.int 2):=rfl;exact i5 1 2 22 (by decide) (by rfl) g0 g1
def ahc:=fb (K2::HM) Q7<|aF fun ρ p0 p1 p2 p3=>by
 have g0:E.I ρ (fn 1 (pr K0 (.int 34)))=(1):=by
  simp only[aa,ae]at *
  obtain⟨a,b,c⟩:=ab ((1)-(E.I ρ (fn 1 (pr K0 (.int 34)))))
  omega
 have g1:E.I ρ _=E.I ρ (.int 2):=rfl;exact i5 1 2 22 (by decide) (by rfl) g0 g1
def ahd:=fb (K1::qN) (fn 109 (pr (fn 1 (pr K0 (.int 8))) HN))<|au fun ρ p0 p1=>by
 have g0:=by
  simp only[aa]at *;omega
 have g1:E.I ρ _=E.I ρ (.int 2):=rfl;exact i5 0 2 8 (by decide) (by rfl) g0 g1
def ahe:=fb QN Rj<|aF fun ρ p0 p1 p2 p3=>by
 have g0:E.I ρ (fn 7 (pr (.int 1) (fn 1 (pr K0 (.int 34)))))=(1):=by
  simp only[aa,ae]at *
  obtain⟨a,b,c⟩:=ab ((1)-(E.I ρ (fn 1 (pr K0 (.int 34)))))
  omega
 have g1:E.I ρ _=E.I ρ (.int 2):=rfl;exact i5 1 2 22 (by decide) (by rfl) g0 g1
def ahf:=fb (K2::HM) Rk<|aF fun ρ p0 p1 p2 p3=>by
 have g0:E.I ρ (fn 7 (pr (.int 1) (fn 1 (pr K0 (.int 34)))))=(0):=by
  simp only[aa,ae]at *
  obtain⟨a,b,c⟩:=ab ((1)-(E.I ρ (fn 1 (pr K0 (.int 34)))))
  omega
 have g1:E.I ρ _=E.I ρ (.int 2):=rfl;exact i5 0 2 8 (by decide) (by rfl) g0 g1
def ahg:=fb (K1::qN) Rj<|au fun ρ p0 p1=>by
 have g0:E.I ρ (fn 7 (pr (.int 1) (fn 1 (pr K0 (.int 34)))))=(1):=by
  simp only[aa]at *;omega
 have g1:E.I ρ _=E.I ρ (.int 2):=rfl;exact i5 1 2 22 (by decide) (by rfl) g0 g1
def ahh:=fb (K1::K2::qN) Rk<|ay fun ρ p0 p1 p2=>by
 have g0:E.I ρ (fn 7 (pr (.int 1) (fn 1 (pr K0 (.int 34)))))=(0):=by
  simp only[aa,ae]at *
  obtain⟨a,b,c⟩:=ab ((1)-(E.I ρ (fn 1 (pr K0 (.int 34)))))
  omega
 have g1:E.I ρ _=E.I ρ (.int 2):=rfl;exact i5 0 2 8 (by decide) (by rfl) g0 g1
def Pl:=fb qN (.not (cmp .lss (.int 30) (fn 0 (fn 1 (pr K0 (.int 31))))))<|ak fun ρ p0=>by
 have:=ao p0
 simp only[aa]at *;omega
def ahi:=fa ((fn 111 (pr K0 (.int 0))))<|fun ρ=>by
 rfl
def ahj:=fa ((fn 113 (pr (fn 10 (.int 0)) (pr K0 (pr (.int 0) (.int 0))))))<|fun ρ=>by
 grind[aIq,aeK]
def ahk:=fb (tE::Rl::Rp::Rm::Ru) tG<|kG fun ρ p0 p1 p2 p3 p4 p5 p6 p7 p8 p9 am=>by
 have:=fun a b c d hm=>@Gr ρ _ (fn 6 (pr ez (.int 1))) _ _ _ p6 a b p7 p8 c d am hm
 simp only[aa]at *;grind
def Pm:=fb AW (.not (cmp .lss (.ar .add .i64 ez (.int 1)) (.int 0)))<|ay fun ρ p0 p1 p2=>by
 have:=ao p0
 simp only[aa,ae]at *
 obtain⟨a,b,c⟩:=ab (E.I ρ ez+1)
 omega
def ahl:=fb (tE::(fn 32 (pr wV (pr (fn 1 (pr (fn 1 (pr K0 (.int 31))) ez)) lj)))::Ru) tG<|fB fun ρ p0 p1 p2 p3 p4 p5 p6 p7 p8=>by
 have:=fun a b c d hm=>@Gr ρ _ (fn 6 (pr ez (.int 1))) _ _ _ p4 a b p5 p6 c d p8 hm
 simp only[aa]at *;grind
def Pn:=fb qN (.not (cmp .lss (.int 30) (fn 9 (pr (fn 1 (pr K0 (.int 32))) (.int 2)))))<|ak fun ρ p0=>by
 have:=ao p0
 simp only[aa]at *;omega
def Po:=fb AW (.not (cmp .lss (fn 0 (fn 1 (pr K0 (.int 31)))) (.ar .add .i64 ez (.int 1))))<|ay fun ρ p0 p1 p2=>by
 simp only[aa,ae]at *
 obtain⟨a,b,c⟩:=ab (E.I ρ ez+1)
 omega
def ahm:=fb ((.not tE)::K9::Rr::Rv) AX<|aF fun ρ p0 p1 p2 p3=>by
 have g0:E.I ρ (fn 0 (fn 1 (pr K0 (.int 31))))=E.I ρ ez:=by
  simp only[aa]at *;omega
 grind[aIo]
def ahn:=fb Rw (fn 111 (pr K0 (.ar .add .i64 ez (.int 1))))<|mO fun ρ p0 p1 p2 p3 p4 p5 p6 p7 p8 p9 am av=>by
 have:=ao p7
 have:=@bY ρ ez (.int 1)
 have:=fun a b c d hm=>@Gr ρ _ (.ar .add .i64 ez (.int 1)) _ _ _ p6 a b p8 p9 c d av hm
 simp only[aa]at *;grind
def aho:=fa ((fn 112 (pr K0 (.int 0))))<|fun ρ=>by
 rfl
def ahp:=fb Rw (fn 113 (pr (fn 34 (pr wV (pr (fn 1 (pr (fn 1 (pr K0 (.int 31))) ez)) AY))) (pr K0 (pr (.ar .add .i64 ez (.int 1)) (.int 0)))))<|mO fun ρ p0 p1 p2 p3 p4 p5 p6 p7 p8 p9 am av=>by
 have:=ao p7
 have:=@bY ρ ez (.int 1)
 have:=fun a b c d hm=>@Gr ρ _ (.ar .add .i64 ez (.int 1)) _ _ _ p6 a b p8 p9 c d av hm
 simp only[aa]at *;grind
def ahq:=fb ((.not tE)::K9::Rq::Rv) (fn 113 (pr wV (pr K0 (pr (fn 0 (fn 1 (pr K0 (.int 31)))) (.int 0)))))<|aF fun ρ p0 p1 p2 p3=>by
 have g0:E.I ρ (fn 0 (fn 1 (pr K0 (.int 31))))=E.I ρ ez:=by
  simp only[aa]at *;omega
 grind[aIp]
def Pp:=fb AW (cmp .lss (fn 7 (pr (fn 0 (fn 1 (pr K0 (.int 31)))) (.ar .add .i64 ez (.int 1)))) (fn 7 (pr (fn 0 (fn 1 (pr K0 (.int 31)))) ez)))<|ay fun ρ p0 p1 p2=>by
 have:=ao p0
 simp only[aa,ae]at *
 obtain⟨a,b,c⟩:=ab (E.I ρ ez+1)
 omega
def ahr:=fb (qP::HS::RB::Rx::AZ) tG<|mO fun ρ p0 p1 p2 p3 p4 p5 p6 p7 p8 p9 am av=>by
 have hw:1<=E.I ρ _->E.I ρ _<=500->E.I ρ _=-(E.I ρ (fn 1 (pr (fn 1 (pr K0 (.int 32))) (fn 6 (pr (fn 8 (pr cx (.int 2))) (.int 0)))))):=vp
 have:=fun a b c d e hm=>@wk ρ _ (fn 6 (pr cx (.int 1))) _ _ _ (.ar .sub .i64 (.int 0) (fn 1 (pr (fn 1 (pr K0 (.int 32))) (fn 6 (pr (fn 8 (pr cx (.int 2))) (.int 0)))))) av a b p4 p6 p5 c d p8 hm _ _ rfl rfl e
 simp only[aa]at *;grind
def ahs:=fb A0 (.not (cmp .lss (.ar .add .i64 cx (.int 1)) (.int 0)))<|ay fun ρ p0 p1 p2=>by
 have:=ao p0
 simp only[aa,ae]at *
 obtain⟨a,b,c⟩:=ab (E.I ρ cx+1)
 omega
def aht:=fb (qP::HS::QD::RE::AZ) tG<|mO fun ρ p0 p1 p2 p3 p4 p5 p6 p7 p8 p9 am av=>by
 have hw:1<=E.I ρ _->E.I ρ _<=500->E.I ρ _=-(E.I ρ (fn 1 (pr (fn 1 (pr K0 (.int 32))) (fn 6 (pr (fn 8 (pr cx (.int 2))) (.int 0)))))):=vp
 have:=fun a b c d e hm=>@wk ρ _ (fn 6 (pr cx (.int 1))) _ _ _ (.ar .sub .i64 (.int 0) (fn 1 (pr (fn 1 (pr K0 (.int 32))) (fn 6 (pr (fn 8 (pr cx (.int 2))) (.int 0)))))) av a b p4 p6 p5 c d p8 hm _ _ rfl rfl e
 simp only[aa]at *;grind
def ahu:=fb (qP::(fn 32 (pr qQ (pr (fn 1 (pr (fn 1 (pr K0 (.int 32))) (fn 6 (pr (fn 8 (pr cx (.int 2))) (.int 1))))) lj)))::(fn 32 (pr qQ (pr (.ar .sub .i64 (.int 0) (fn 1 (pr (fn 1 (pr K0 (.int 32))) (fn 6 (pr (fn 8 (pr cx (.int 2))) (.int 0)))))) lj)))::AZ) tG<|kG fun ρ p0 p1 p2 p3 p4 p5 p6 p7 p8 p9 am=>by
 have hw:1<=E.I ρ _->E.I ρ _<=500->E.I ρ _=-(E.I ρ (fn 1 (pr (fn 1 (pr K0 (.int 32))) (fn 6 (pr (fn 8 (pr cx (.int 2))) (.int 0)))))):=vp
 have:=fun a b c d e hm=>@wk ρ _ (fn 6 (pr cx (.int 1))) _ _ _ (.ar .sub .i64 (.int 0) (fn 1 (pr (fn 1 (pr K0 (.int 32))) (fn 6 (pr (fn 8 (pr cx (.int 2))) (.int 0)))))) am a b p3 p5 p4 c d p7 hm _ _ rfl rfl e
 simp only[aa]at *;grind
def ahv:=fb (qP::(.not (fn 32 (pr qQ (pr (fn 1 (pr (fn 1 (pr K0 (.int 32))) (fn 6 (pr (fn 8 (pr cx (.int 2))) (.int 1))))) lj))))::AZ) tG<|jh fun ρ p0 p1 p2 p3 p4 p5 p6 p7 p8 p9=>by
 have hw:1<=E.I ρ _->E.I ρ _<=500->E.I ρ _=-(E.I ρ (fn 1 (pr (fn 1 (pr K0 (.int 32))) (fn 6 (pr (fn 8 (pr cx (.int 2))) (.int 0)))))):=vp
 have:=fun a b c d e hm=>@wk ρ _ (fn 6 (pr cx (.int 1))) _ _ _ (.ar .sub .i64 (.int 0) (fn 1 (pr (fn 1 (pr K0 (.int 32))) (fn 6 (pr (fn 8 (pr cx (.int 2))) (.int 0)))))) p9 a b p2 p4 p3 c d p6 hm _ _ rfl rfl e
 simp only[aa]at *;grind
def ahw:=fb [(.not qP),HT,AX,(.not (cmp .lss (fn 9 (pr (fn 1 (pr K0 (.int 32))) (.int 2))) cx))] (.iff AY HR)<|aF fun ρ p0 p1 p2 p3=>by
 have:=@aJs ρ _ _ p2 p1
 simp only[aa]at *;grind
def Pq:=fb AW (.not (cmp .lss (fn 7 (pr (fn 0 (fn 1 (pr K0 (.int 31)))) (.ar .add .i64 ez (.int 1)))) (.int 0)))<|ay fun ρ p0 p1 p2=>by
 simp only[aa,ae]at *
 obtain⟨a,b,c⟩:=ab (E.I ρ ez+1)
 omega
def ahx:=fb A0 (.not (cmp .lss (fn 9 (pr (fn 1 (pr K0 (.int 32))) (.int 2))) (.ar .add .i64 cx (.int 1))))<|ay fun ρ p0 p1 p2=>by
 simp only[aa,ae]at *
 obtain⟨a,b,c⟩:=ab (E.I ρ cx+1)
 omega
def ahy:=fb QF (fn 112 (pr K0 (.ar .add .i64 cx (.int 1))))<|pP fun ρ p0 p1 p2 p3 p4 p5 p6 p7 p8 p9 am av az aD aJ aL=>by
 have:=ao aL
 have:=@bY ρ cx (.int 1)
 have hw:1<=E.I ρ _->E.I ρ _<=500->E.I ρ _=-(E.I ρ (fn 1 (pr (fn 1 (pr K0 (.int 32))) (fn 6 (pr (fn 8 (pr cx (.int 2))) (.int 0)))))):=vp
 have:=fun a b c d e hm=>@wk ρ _ (.ar .add .i64 cx (.int 1)) _ _ _ (.ar .sub .i64 (.int 0) (fn 1 (pr (fn 1 (pr K0 (.int 32))) (fn 6 (pr (fn 8 (pr cx (.int 2))) (.int 0)))))) aJ a b p7 p9 p8 c d av hm _ _ rfl rfl e
 simp only[aa]at *;grind
def ahz:=fb QF (fn 113 (pr (fn 34 (pr (fn 34 (pr qQ (pr (fn 1 (pr (fn 1 (pr K0 (.int 32))) (fn 6 (pr (fn 8 (pr cx (.int 2))) (.int 1))))) lj))) (pr (.ar .sub .i64 (.int 0) (fn 1 (pr (fn 1 (pr K0 (.int 32))) (fn 6 (pr (fn 8 (pr cx (.int 2))) (.int 0)))))) AY))) (pr K0 (pr (fn 0 (fn 1 (pr K0 (.int 31)))) (.ar .add .i64 cx (.int 1))))))<|pP fun ρ p0 p1 p2 p3 p4 p5 p6 p7 p8 p9 am av az aD aJ aL=>by
 have:=ao aL
 have:=@bY ρ cx (.int 1)
 have hw:1<=E.I ρ _->E.I ρ _<=500->E.I ρ _=-(E.I ρ (fn 1 (pr (fn 1 (pr K0 (.int 32))) (fn 6 (pr (fn 8 (pr cx (.int 2))) (.int 0)))))):=vp
 have:=fun a b c d e hm=>@wk ρ _ (.ar .add .i64 cx (.int 1)) _ _ _ (.ar .sub .i64 (.int 0) (fn 1 (pr (fn 1 (pr K0 (.int 32))) (fn 6 (pr (fn 8 (pr cx (.int 2))) (.int 0)))))) aJ a b p7 p9 p8 c d av hm _ _ rfl rfl e
 simp only[aa]at *;grind
def ahA:=fb A0 (cmp .lss (fn 7 (pr (fn 9 (pr (fn 1 (pr K0 (.int 32))) (.int 2))) (.ar .add .i64 cx (.int 1)))) (fn 7 (pr (fn 9 (pr (fn 1 (pr K0 (.int 32))) (.int 2))) cx)))<|ay fun ρ p0 p1 p2=>by
 have:=ao p0
 simp only[aa,ae]at *
 obtain⟨a,b,c⟩:=ab (E.I ρ cx+1)
 omega
def ahB:=fb A0 (.not (cmp .lss (fn 7 (pr (fn 9 (pr (fn 1 (pr K0 (.int 32))) (.int 2))) (.ar .add .i64 cx (.int 1)))) (.int 0)))<|ay fun ρ p0 p1 p2=>by
 simp only[aa,ae]at *
 obtain⟨a,b,c⟩:=ab (E.I ρ cx+1)
 omega
def bn:List Fa:=[aha,Pk,ahb,ahc,ahd,ahe,ahf,ahg,ahh,Qj,Qe,Pl,ahi,ahj,ahk,Pm,ahl,Pn,Po,ahm,ahn,aho,ahp,ahq,Pp,ahr,ahs,aht,ahu,ahv,ahw,Pq,ahx,ahy,ahz,ahA,ahB]
theorem aG3:aV Tryz.prog (bz (aGs)):=sc bn (aA9) aca ([]) (by kernel_rfl) (by kernel_rfl)
def acd:Nl:=nc aG3 aca
def ahC:=fb [K7] cD<|ak fun ρ p0=>by
 have:=@cH ρ K0
 simp only[aa]at *;grind
def ahD:=fb [K8,K6,QG] cD<|ay fun ρ p0 p1 p2=>by
 have:=@cH ρ K0
 simp only[aa]at *;grind
def ahE:=fb [K8,K6,cY,da,QI] cD<|bl fun ρ p0 p1 p2 p3 p4=>by
 have:=@cH ρ K0
 simp only[aa]at *;grind
def ahF:=fb [K8,K6,cY,da,de,di,QK] cD<|eZ fun ρ p0 p1 p2 p3 p4 p5 p6=>by
 have:=@cH ρ K0
 simp only[aa]at *;grind
def ahG:=fb [K8,K6,cY,da,de,di,dy,dB,QM] cD<|fB fun ρ p0 p1 p2 p3 p4 p5 p6 p7 p8=>by
 have:=@cH ρ K0
 simp only[aa]at *;grind
def ahH:=fb [K9,(cmp .lss (.int 200) (fn 9 (pr (fn 1 (pr K0 (.int 30))) (.int 5))))] cD<|au fun ρ p0 p1=>by
 have:=ao p0
 simp only[aa]at *;grind
def ahI:=fb [K9,K8,K6,cY,da,de,di,dy,dB,dE,dK,QP] cD<|mO fun ρ p0 p1 p2 p3 p4 p5 p6 p7 p8 p9 am av=>by
 have:=@cH ρ K0
 simp only[aa]at *;grind
def ahJ:=fb [K9,K8,K6,cY,da,de,di,dy,dB,dE,dK,dN,dP,dX,QT] cD<|yV fun ρ p0 p1 p2 p3 p4 p5 p6 p7 p8 p9 am av az aD aJ=>by
 have:=@cH ρ K0
 simp only[aa]at *;grind
def ahK:=fb [K9,K8,K6,cY,da,de,di,dy,dB,dE,dK,dN,dP,dX,eG,QV] cD<|pP fun ρ p0 p1 p2 p3 p4 p5 p6 p7 p8 p9 am av az aD aJ aL=>by
 have:=@cH ρ K0
 simp only[aa]at *;grind
def ahL:=fb [K9,K8,K6,cY,da,de,di,dy,dB,dE,dK,dN,dP,dX,eG,eQ,QX] cD<|lP fun ρ p0 p1 p2 p3 p4 p5 p6 p7 p8 p9 am av az aD aJ aL aU=>by
 have:=@cH ρ K0
 simp only[aa]at *;grind
def ahM:=fb [K9,K8,K6,cY,da,de,di,dy,dB,dE,dK,dN,dP,dX,eG,eQ,fy,QZ] cD<|DR fun ρ p0 p1 p2 p3 p4 p5 p6 p7 p8 p9 am av az aD aJ aL aU bg=>by
 have:=@cH ρ K0
 simp only[aa]at *;grind
def ahN:=fb [K9,K8,K6,cY,da,de,di,dy,dB,dE,dK,dN,dP,dX,eG,eQ,fy,Q0] cD<|DR fun ρ p0 p1 p2 p3 p4 p5 p6 p7 p8 p9 am av az aD aJ aL aU bg=>by
 have:=@cH ρ K0
 simp only[aa]at *;grind
def ahO:=fb [K9,K8,K6,cY,da,de,di,dy,dB,dE,dK,dN,dP,dX,eG,eQ,fy,fU,gc,Q2] cD<|aa3 fun ρ p0 p1 p2 p3 p4 p5 p6 p7 p8 p9 am av az aD aJ aL aU bg bn bD=>by
 have:=@cH ρ K0
 simp only[aa]at *;grind
def ahP:=fb [K9,K8,K6,cY,da,de,di,dy,dB,dE,dK,dN,dP,dX,eG,eQ,fy,fU,gc,gk,Q3] cD<|aa4 fun ρ p0 p1 p2 p3 p4 p5 p6 p7 p8 p9 am av az aD aJ aL aU bg bn bD bL=>by
 have:=@cH ρ K0
 simp only[aa]at *;grind
def ahQ:=fb [K9,K8,K6,cY,da,de,di,dy,dB,dE,dK,dN,dP,dX,eG,eQ,fy,fU,gc,gk,Q4] cD<|aa4 fun ρ p0 p1 p2 p3 p4 p5 p6 p7 p8 p9 am av az aD aJ aL aU bg bn bD bL=>by
 have:=@cH ρ K0
 simp only[aa]at *;grind
def ahR:=fb [K9,K8,K6,cY,da,de,di,dy,dB,dE,dK,dN,dP,dX,eG,eQ,fy,fU,gc,gk,gT,ie,iK,Q8] cD<|yW fun ρ p0 p1 p2 p3 p4 p5 p6 p7 p8 p9 am av az aD aJ aL aU bg bn bD bL bW cf cG=>by
 have:=@cH ρ K0
 simp only[aa]at *;grind
def ahS:=fb [K9,K8,K6,cY,da,de,di,dy,dB,dE,dK,dN,dP,dX,eG,eQ,fy,fU,gc,gk,gT,ie,iK,jv,Ra] cD<|aa6 fun ρ p0 p1 p2 p3 p4 p5 p6 p7 p8 p9 am av az aD aJ aL aU bg bn bD bL bW cf cG dg=>by
 have:=@cH ρ K0
 simp only[aa]at *;grind
def ahT:=fb [K9,K8,K6,cY,da,de,di,dy,dB,dE,dK,dN,dP,dX,eG,eQ,fy,fU,gc,gk,gT,ie,iK,jv,lh,Rc] cD<|aa7 fun ρ p0 p1 p2 p3 p4 p5 p6 p7 p8 p9 am av az aD aJ aL aU bg bn bD bL bW cf cG dg dH=>by
 have:=@cH ρ K0
 simp only[aa]at *;grind
def ahU:=fb [K9,K8,K6,cY,da,de,di,dy,dB,dE,dK,dN,dP,dX,eG,eQ,fy,fU,gc,gk,gT,ie,iK,jv,lh,nD,Re] cD<|aa8 fun ρ p0 p1 p2 p3 p4 p5 p6 p7 p8 p9 am av az aD aJ aL aU bg bn bD bL bW cf cG dg dH ef=>by
 have:=@cH ρ K0
 simp only[aa]at *;grind
def ahV:=fb [K9,K8,K6,cY,da,de,di,dy,dB,dE,dK,dN,dP,dX,eG,eQ,fy,fU,gc,gk,gT,ie,iK,jv,lh,nD,Rf] cD<|aa8 fun ρ p0 p1 p2 p3 p4 p5 p6 p7 p8 p9 am av az aD aJ aL aU bg bn bD bL bW cf cG dg dH ef=>by
 have:=@cH ρ K0
 simp only[aa]at *;grind
def ahW:=fb [K9,K8,K6,cY,da,de,di,dy,dB,dE,dK,dN,dP,dX,eG,eQ,fy,fU,gc,gk,gT,ie,iK,jv,lh,nD,qO,tD,Rh] cD<|aDR fun ρ p0 p1 p2 p3 p4 p5 p6 p7 p8 p9 am av az aD aJ aL aU bg bn bD bL bW cf cG dg dH ef fh fO=>by
 have:=@cH ρ K0
 simp only[aa]at *;grind
def ahX:=fb [K9,K8,K6,cY,da,de,di,dy,dB,dE,dK,dN,dP,dX,eG,eQ,fy,fU,gc,gk,gT,ie,iK,jv,lh,nD,qO,tD,wT,Ri] cD<|aDS fun ρ p0 p1 p2 p3 p4 p5 p6 p7 p8 p9 am av az aD aJ aL aU bg bn bD bL bW cf cG dg dH ef fh fO gt=>by
 have:=@cH ρ K0
 simp only[aa]at *;grind
def ahY:=fb [HP,(var 3)] tF<|au fun ρ p0 p1=>by
 simp_all
def ahZ:=fb [K9,K8,K6,cY,da,de,di,dy,dB,dE,dK,dN,dP,dX,eG,eQ,fy,fU,gc,gk,gT,ie,iK,jv,lh,nD,qO,tD,wT,AU,wU,HQ,AV,HP,(.not (var 3))] cD<|aDV fun ρ p0 p1 p2 p3 p4 p5 p6 p7 p8 p9 am av az aD aJ aL aU bg bn bD bL bW cf cG dg dH ef fh fO gt iC jQ jn mU mV=>by
 have:=@cH ρ K0
 simp_all
def ah0:=fb [K9,K8,K6,cY,da,de,di,dy,dB,dE,dK,dN,dP,dX,eG,eQ,fy,fU,gc,gk,gT,ie,iK,jv,lh,nD,qO,tD,wT,AU,wU,HQ,(.not AV)] cD<|aDU fun ρ p0 p1 p2 p3 p4 p5 p6 p7 p8 p9 am av az aD aJ aL aU bg bn bD bL bW cf cG dg dH ef fh fO gt iC jQ jn=>by
 have:=@cH ρ K0
 simp_all
def ah1:=fb [K9,K8,K6,cY,da,de,di,dy,dB,dE,dK,dN,dP,dX,eG,eQ,fy,fU,gc,gk,gT,ie,iK,jv,lh,nD,qO,tD,wT,AU,(.not wU)] cD<|aDT fun ρ p0 p1 p2 p3 p4 p5 p6 p7 p8 p9 am av az aD aJ aL aU bg bn bD bL bW cf cG dg dH ef fh fO gt iC=>by
 have:=@cH ρ K0
 simp_all
def ah2:=fb [K9,K8,K6,cY,da,de,di,dy,dB,dE,dK,dN,dP,dX,eG,eQ,fy,fU,gc,gk,gT,ie,iK,jv,lh,nD,qO,Rg] cD<|aDQ fun ρ p0 p1 p2 p3 p4 p5 p6 p7 p8 p9 am av az aD aJ aL aU bg bn bD bL bW cf cG dg dH ef fh=>by
 have:=@cH ρ K0
 simp only[aa]at *;grind
def ah3:=fb [K9,K8,K6,cY,da,de,di,dy,dB,dE,dK,dN,dP,dX,eG,eQ,fy,fU,gc,gk,gT,ie,iK,jv,lh,Rd] cD<|aa7 fun ρ p0 p1 p2 p3 p4 p5 p6 p7 p8 p9 am av az aD aJ aL aU bg bn bD bL bW cf cG dg dH=>by
 have:=@cH ρ K0
 simp only[aa]at *;grind
def ah4:=fb [K9,K8,K6,cY,da,de,di,dy,dB,dE,dK,dN,dP,dX,eG,eQ,fy,fU,gc,gk,gT,ie,iK,jv,Rb] cD<|aa6 fun ρ p0 p1 p2 p3 p4 p5 p6 p7 p8 p9 am av az aD aJ aL aU bg bn bD bL bW cf cG dg=>by
 have:=@cH ρ K0
 simp only[aa]at *;grind
def ah5:=fb [K9,K8,K6,cY,da,de,di,dy,dB,dE,dK,dN,dP,dX,eG,eQ,fy,fU,gc,gk,gT,ie,iK,Q9] cD<|yW fun ρ p0 p1 p2 p3 p4 p5 p6 p7 p8 p9 am av az aD aJ aL aU bg bn bD bL bW cf cG=>by
 have:=@cH ρ K0
 simp only[aa]at *;grind
def ah6:=fb [K9,K8,K6,cY,da,de,di,dy,dB,dE,dK,dN,dP,dX,eG,eQ,fy,fU,gc,gk,gT,ie,Q6] cD<|aDP fun ρ p0 p1 p2 p3 p4 p5 p6 p7 p8 p9 am av az aD aJ aL aU bg bn bD bL bW cf=>by
 have:=@cH ρ K0
 simp only[aa]at *;grind
def ah7:=fb [K9,K8,K6,cY,da,de,di,dy,dB,dE,dK,dN,dP,dX,eG,eQ,fy,fU,gc,gk,gT,ie,iK,jv,lh,nD,qO,tD,wT,AU,wU,HQ,AV,HP,(var 3),(.iff (var 4) HR),(.not QT),(.not QV),(.not QX),(.not QZ),(.not Q3),(.not Q8),(.not Ra),(.not Rc),(.not Re),(.not Ri)] (.iff (var 4) (fn 115 K0))<|aDX fun ρ p0 p1 p2 p3 p4 p5 p6 p7 p8 p9 am av az aD aJ aL aU bg bn bD bL bW cf cG dg dH ef fh fO gt iC jQ jn mU mV sQ sR sS sT sU sV sW sX sY ql E6=>by
 have:=ao p0
 have:=@cH ρ K0
 simp only[aa]at *;grind
def ah8:=fb [K9,K8,K6,cY,da,de,di,dy,dB,dE,dK,dN,dP,dX,eG,eQ,fy,fU,gc,gk,gT,Q5] cD<|aa5 fun ρ p0 p1 p2 p3 p4 p5 p6 p7 p8 p9 am av az aD aJ aL aU bg bn bD bL bW=>by
 have:=@cH ρ K0
 simp only[aa]at *;grind
def ah9:=fb [K9,K8,K6,cY,da,de,di,dy,dB,dE,dK,dN,dP,dX,eG,eQ,fy,fU,Q1] cD<|DS fun ρ p0 p1 p2 p3 p4 p5 p6 p7 p8 p9 am av az aD aJ aL aU bg bn=>by
 have:=@cH ρ K0
 simp only[aa]at *;grind
def aia:=fb [K9,K8,K6,cY,da,de,di,dy,dB,dE,dK,dN,dP,dX,eG,eQ,QY] cD<|lP fun ρ p0 p1 p2 p3 p4 p5 p6 p7 p8 p9 am av az aD aJ aL aU=>by
 have:=@cH ρ K0
 simp only[aa]at *;grind
def aib:=fb [K9,K8,K6,cY,da,de,di,dy,dB,dE,dK,dN,dP,dX,eG,QW] cD<|pP fun ρ p0 p1 p2 p3 p4 p5 p6 p7 p8 p9 am av az aD aJ aL=>by
 have:=@cH ρ K0
 simp only[aa]at *;grind
def aic:=fb [K9,K8,K6,cY,da,de,di,dy,dB,dE,dK,dN,dP,dX,QU] cD<|yV fun ρ p0 p1 p2 p3 p4 p5 p6 p7 p8 p9 am av az aD aJ=>by
 have:=@cH ρ K0
 simp only[aa]at *;grind
def aid:=fb [K9,K8,K6,cY,da,de,di,dy,dB,dE,dK,dN,dP,QS] cD<|mP fun ρ p0 p1 p2 p3 p4 p5 p6 p7 p8 p9 am av az aD=>by
 have:=@cH ρ K0
 simp only[aa]at *;grind
def aie:=fb [K9,K8,K6,cY,da,de,di,dy,dB,dE,dK,dN,QQ] cD<|kH fun ρ p0 p1 p2 p3 p4 p5 p6 p7 p8 p9 am av az=>by
 have:=@cH ρ K0
 simp only[aa]at *;grind
def aif:=fb [K9,(cmp .lss (.int 200) (fn 9 (pr (fn 1 (pr K0 (.int 29))) (.int 5))))] cD<|au fun ρ p0 p1=>by
 have:=ao p0
 simp only[aa]at *;grind
def aig:=fb [K9,(cmp .lss (.int 500) (fn 9 (pr (fn 1 (pr K0 (.int 0))) (.int 12))))] cD<|au fun ρ p0 p1=>by
 have:=ao p0
 simp only[aa]at *;grind
def aih:=fb [K8,K6,cY,da,de,di,dy,dB,dE,QO] cD<|jh fun ρ p0 p1 p2 p3 p4 p5 p6 p7 p8 p9=>by
 have:=@cH ρ K0
 simp only[aa]at *;grind
def aii:=fb [K8,K6,cY,da,de,di,dy,QL] cD<|dO fun ρ p0 p1 p2 p3 p4 p5 p6 p7=>by
 have:=@cH ρ K0
 simp only[aa]at *;grind
def aij:=fb [K8,K6,cY,da,de,QJ] cD<|cz fun ρ p0 p1 p2 p3 p4 p5=>by
 have:=@cH ρ K0
 simp only[aa]at *;grind
def aik:=fb [K8,K6,cY,QH] cD<|aF fun ρ p0 p1 p2 p3=>by
 have:=@cH ρ K0
 simp only[aa]at *;grind
def ail:=fb [K8,K5] cD<|au fun ρ p0 p1=>by
 have:=@cH ρ K0
 simp only[aa]at *;grind
def bD:List Fa:=[ahC,ahD,ahE,ahF,ahG,ahH,ahI,ahJ,ahK,ahL,ahM,ahN,ahO,ahP,ahQ,ahR,ahS,ahT,ahU,ahV,ahW,ahX,ahY,ahZ,ah0,ah1,ah2,ah3,ah4,ah5,ah6,ah7,ah8,ah9,aia,aib,aic,aid,aie,aif,aig,aih,aii,aij,aik,ail]
theorem aG4:aV Tryz.prog (bz (spV)):=sc bD ([]) acd ([]) (by kernel_rfl) (by kernel_rfl)
def ace:Nl:=nc aG4 acd
end
end Go.Proofs.YtnggbcblogpnfaaGreat.combatDamages
