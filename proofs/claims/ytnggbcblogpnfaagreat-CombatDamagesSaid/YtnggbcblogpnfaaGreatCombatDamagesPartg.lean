/-
  CombatDamages: contracts of functions, part 7.
-/
import Derived.Test.YtnggbcblogpnfaaGreatCombatDamagesPartf
namespace Go.Proofs.YtnggbcblogpnfaaGreat.combatDamages
open Go.ChangeShapes Go.WideShapes Go.ChangeAt Go.RowKit
open Go.SX
open Go.SX.E (fn pr cmp var)
set_option linter.unusedVariables false
set_option linter.unusedSimpArgs false
set_option maxRecDepth 100000
noncomputable section
abbrev N0:E:=var 4
abbrev N1:E:=cmp .lss (.int 4) (fn 9 (pr N0 (.int 2)))
abbrev N2:E:=.bool false
abbrev N3:E:=var 0
abbrev N4:E:=var 1
abbrev N5:E:=var 2
abbrev N6:E:=var 3
abbrev N7:E:=var 5
abbrev N8:E:=pr N6 (pr N0 N7)
abbrev N9:E:=pr N5 N8
abbrev N10:E:=pr N4 N9
abbrev N11:E:=pr N3 N10
abbrev RN:E:=fn 102 N11
abbrev iL:E:=.iff N2 RN
abbrev RW:E:=cmp .lss (.int 0) (fn 9 (pr N0 (.int 2)))
abbrev HX:E:=cmp .lss N6 (.int 0)
abbrev pg:E:=.not HX
abbrev wZ:E:=.imp pg (cmp .eql (fn 9 (pr N0 (.int 2))) (.int 0))
abbrev H2:E:=.not N1
abbrev H4:E:=cmp .lss (.int 1) N6
abbrev Sh:E:=cmp .lss (.int 399) N5
abbrev H8:E:=cmp .lss N5 (.int 0)
abbrev jw:E:=.not H8
abbrev Sv:E:=cmp .lss (.int 500) N4
abbrev SA:E:=cmp .lss N4 (.int 1)
abbrev SF:E:=cmp .lss (.int 1) N3
abbrev N26:E:=cmp .lss N3 (.int 0)
abbrev N27:E:=.not N26
abbrev N28:=[N27]
abbrev N29:List E:=(.not SF)::N28
abbrev N30:List E:=(.not SA)::N29
abbrev N31:List E:=(.not Sv)::N30
abbrev N32:=jw::N31
abbrev SH:List E:=(.not Sh)::N32
abbrev Ig:E:=cmp .lss N6 (.int (-1))
abbrev tM:E:=.imp N7 pg
abbrev aS:E:=var 8
abbrev ka:E:=cmp .lss aS (fn 9 (pr N0 (.int 2)))
abbrev SI:E:=cmp .lss (fn 1 (pr N0 (fn 6 (pr (fn 8 (pr aS (.int 2))) (.int 0))))) (.int 0)
abbrev tN:E:=.not SI
abbrev SJ:E:=cmp .lss (fn 1 (pr N0 (fn 6 (pr (fn 8 (pr aS (.int 2))) (.int 1))))) (.int 0)
abbrev A9:E:=.not SJ
abbrev Ba:E:=cmp .lss (.int 1) (fn 1 (pr N0 (fn 6 (pr (fn 8 (pr aS (.int 2))) (.int 1)))))
abbrev SK:E:=cmp .lss (.int 0) (fn 1 (pr N0 (fn 6 (pr (fn 8 (pr aS (.int 2))) (.int 0)))))
abbrev SL:E:=cmp .eql (fn 1 (pr N0 (fn 6 (pr (fn 8 (pr aS (.int 2))) (.int 1))))) (.int 0)
abbrev Ih:E:=cmp .lss (.int 500) (fn 1 (pr N0 (fn 6 (pr (fn 8 (pr aS (.int 2))) (.int 0)))))
abbrev SM:E:=cmp .lss aS (.int 0)
abbrev qR:E:=.not SM
abbrev N48:List E:=(.not Ig)::SH
abbrev N49:List E:=(.not H4)::N48
abbrev SN:=H2::N49
abbrev mg:=[qR]
abbrev N52:E:=pr N0 aS
abbrev SO:E:=fn 101 N52
abbrev N54:=[H2]
abbrev Ii:=qR::N54
abbrev N56:E:=cmp .lss (.ar .add .i64 aS (.int 1)) (.int 0)
abbrev Ij:E:=.not N56
abbrev N58:=SO::Ii
abbrev SP:List E:=(.not Ih)::N58
abbrev N60:E:=pr N0 (.ar .add .i64 aS (.int 1))
abbrev SQ:E:=fn 101 N60
abbrev nK:E:=cmp .lss aS (fn 0 N3)
abbrev N63:E:=cmp .lss (.int 1000) (fn 0 N3)
abbrev N64:E:=.not N63
abbrev N65:=[N64]
abbrev SR:=qR::N65
abbrev SS:=nK::SR
abbrev jx:E:=var 9
abbrev Ik:E:=cmp .eql jx (fn 131 (pr N3 (pr N4 aS)))
abbrev N70:E:=cmp .lss aS jx
abbrev Il:E:=.not N70
abbrev SU:E:=cmp .eql (fn 1 (pr N3 aS)) N4
abbrev N73:E:=cmp .lss jx (.int 0)
abbrev N74:E:=.not N73
abbrev SW:=Ik::SR
abbrev N76:=N74::SW
abbrev Im:=Il::N76
abbrev SY:=nK::Im
abbrev Bb:E:=cmp .lss aS (fn 9 (pr (fn 1 (pr N3 (.int 0))) (.int 12)))
abbrev SZ:E:=cmp .eql (fn 1 (pr (fn 1 (pr N3 (.int 0))) (fn 6 (pr (fn 8 (pr aS (.int 12))) (.int 0))))) N4
abbrev In:E:=cmp .eql (fn 120 (pr N3 (pr N4 aS))) (.int (-1))
abbrev mh:E:=fn 117 N3
abbrev Bc:=Bb::mg
abbrev gC:=[mh]
abbrev S0:E:=cmp .eql N4 (.int 0)
abbrev N86:E:=cmp .lss (fn 0 (fn 1 (pr N3 (.int 6)))) N6
abbrev N87:E:=.not N86
abbrev N88:E:=cmp .eql N6 (fn 121 (pr (fn 1 (pr N3 (.int 6))) N5))
abbrev N89:E:=cmp .lss (fn 0 (fn 1 (pr N3 (.int 7)))) N0
abbrev N90:E:=.not N89
abbrev Bd:E:=.not (cmp .lss N0 (.int 0))
abbrev N92:E:=cmp .eql N0 (fn 121 (pr (fn 1 (pr N3 (.int 7))) N5))
abbrev N93:E:=cmp .lss (fn 0 (fn 1 (pr N3 (.int 8)))) N7
abbrev N94:E:=.not N93
abbrev S1:E:=cmp .lss N7 (.int 0)
abbrev ll:E:=.not S1
abbrev N97:E:=cmp .eql N7 (fn 121 (pr (fn 1 (pr N3 (.int 8))) N5))
abbrev dQ:E:=var 6
abbrev N99:E:=cmp .lss (fn 0 (fn 1 (pr N3 (.int 9)))) dQ
abbrev auq:E:=.not N99
abbrev RJ:E:=cmp .lss dQ (.int 0)
abbrev nF:E:=.not RJ
abbrev aur:E:=cmp .eql dQ (fn 121 (pr (fn 1 (pr N3 (.int 9))) N5))
abbrev aus:=aur::gC
abbrev aut:=nF::aus
abbrev auu:=auq::aut
abbrev auv:=N97::auu
abbrev auw:=ll::auv
abbrev aux:=N94::auw
abbrev auy:=N92::aux
abbrev auz:=Bd::auy
abbrev auA:=N90::auz
abbrev auB:=N88::auA
abbrev auC:=pg::auB
abbrev HV:=N87::auC
abbrev RK:E:=cmp .eql (.ar .add .i64 (.ar .add .i64 (.ar .add .i64 (.ar .add .i64 (.int 0) N6) N0) N7) dQ) (fn 6 (pr (fn 132 (pr N3 (pr N4 (pr (.int 4) N5)))) (fn 133 (pr N3 (pr N4 (pr N5 (.int 0)))))))
abbrev auD:E:=cmp .lss (fn 0 (fn 1 (pr N3 (.int 20)))) N6
abbrev RL:E:=.not auD
abbrev RM:E:=cmp .eql N6 (fn 121 (pr (fn 1 (pr N3 (.int 20))) N5))
abbrev auE:E:=cmp .lss (fn 0 (fn 1 (pr N3 (.int 21)))) N0
abbrev RO:E:=.not auE
abbrev RP:E:=cmp .eql N0 (fn 121 (pr (fn 1 (pr N3 (.int 21))) N5))
abbrev auF:E:=cmp .lss (fn 0 (fn 1 (pr N3 (.int 22)))) N7
abbrev RQ:E:=.not auF
abbrev RR:E:=cmp .eql N7 (fn 121 (pr (fn 1 (pr N3 (.int 22))) N5))
abbrev auG:E:=cmp .lss (fn 0 (fn 1 (pr N3 (.int 23)))) dQ
abbrev RS:E:=.not auG
abbrev RT:E:=cmp .eql dQ (fn 121 (pr (fn 1 (pr N3 (.int 23))) N5))
abbrev RU:E:=cmp .lss N4 (.int 0)
abbrev A1:E:=.not RU
abbrev auH:E:=cmp .lss (.ar .add .i64 (.ar .add .i64 (.ar .add .i64 (.ar .add .i64 (.int 0) N6) N0) N7) dQ) (.int 0)
abbrev RV:E:=.not auH
abbrev auI:=RS::nF::RT::gC
abbrev auJ:=RR::auI
abbrev auK:=ll::auJ
abbrev auL:=RQ::auK
abbrev auM:=RP::auL
abbrev auN:=Bd::auM
abbrev auO:=RO::auN
abbrev auP:=RM::auO
abbrev auQ:=pg::auP
abbrev RX:=RL::auQ
abbrev auR:E:=cmp .lss (.int 160) (.ar .add .i64 (.ar .add .i64 (.ar .add .i64 (.ar .add .i64 (.int 0) N6) N0) N7) dQ)
abbrev RY:E:=.not auR
abbrev bF:E:=var 16
abbrev ig:E:=cmp .lss bF (fn 9 (pr (fn 1 (pr N3 (.int 29))) (.int 5)))
abbrev auS:E:=cmp .lss bF (.int 0)
abbrev RZ:E:=.not auS
abbrev HW:=[RZ]
abbrev auT:=ig::HW
abbrev A2:=mh::auT
abbrev A3:E:=.not ig
abbrev fA:E:=var 17
abbrev HY:E:=cmp .eql fA (fn 6 (pr (fn 132 (pr N3 (pr N4 (pr (.int 4) N5)))) (fn 133 (pr N3 (pr N4 (pr N5 bF))))))
abbrev auU:E:=cmp .lss (fn 9 (pr (fn 1 (pr N3 (.int 29))) (.int 5))) bF
abbrev HZ:E:=.not auU
abbrev auV:E:=cmp .lss (fn 6 (pr (.int 160) bF)) fA
abbrev H0:E:=.not auV
abbrev R0:E:=cmp .eql (fn 1 (pr (fn 1 (pr N3 (.int 29))) (fn 6 (pr (fn 8 (pr bF (.int 5))) (.int 3))))) (.int (-1))
abbrev R3:E:=cmp .eql (fn 1 (pr (fn 1 (pr N3 (.int 29))) (fn 6 (pr (fn 8 (pr bF (.int 5))) (.int 1))))) N5
abbrev R4:E:=cmp .eql (fn 1 (pr (fn 1 (pr N3 (.int 29))) (fn 6 (pr (fn 8 (pr bF (.int 5))) (.int 0))))) N4
abbrev auW:E:=cmp .lss fA (.int 0)
abbrev R5:E:=.not auW
abbrev wY:=HY::RZ::gC
abbrev auX:=R5::wY
abbrev R6:=H0::auX
abbrev H1:E:=cmp .eql fA (fn 6 (pr (fn 132 (pr N3 (pr N4 (pr (.int 4) N5)))) (fn 133 (pr N3 (pr N4 (pr N5 (.ar .add .i64 bF (.int 1))))))))
abbrev R7:=ig::R6
abbrev auY:E:=cmp .lss (.ar .add .i64 fA (.int 1)) (.int 0)
abbrev R8:E:=.not auY
abbrev i9:E:=.not (cmp .lss N3 (.int 1))
abbrev ja:E:=.not (cmp .lss N4 (.int (-1)))
abbrev R9:E:=cmp .lss (.int 1) N5
abbrev gU:E:=var 7
abbrev auZ:E:=pr gU aS
abbrev au0:E:=pr dQ auZ
abbrev au1:E:=pr N7 au0
abbrev au2:E:=pr N0 au1
abbrev au3:E:=pr N6 au2
abbrev au4:E:=pr N5 au3
abbrev au5:E:=pr N4 au4
abbrev au6:E:=pr N3 au5
abbrev Sa:E:=fn 137 au6
abbrev j9:E:=.iff N2 Sa
abbrev lk:E:=.not R9
abbrev mf:E:=cmp .eql N6 (.int 0)
abbrev nG:E:=cmp .eql N0 (.int 0)
abbrev au7:E:=cmp .lss (.int 500) N3
abbrev H3:E:=.not au7
abbrev H5:E:=cmp .lss (.int 399) N4
abbrev Sb:=[H3,(.not H5)]
abbrev Sc:E:=cmp .lss gU (.int 0)
abbrev A4:E:=.not Sc
abbrev Sd:E:=cmp .lss (.int 99) N7
abbrev Se:E:=cmp .lss (.int 99) dQ
abbrev Sf:E:=cmp .lss (.int 99) gU
abbrev au8:List E:=[(.not Se),(.not Sf)]
abbrev Sg:List E:=(.not Sd)::au8
abbrev au9:E:=cmp .lss (.int 99) aS
abbrev ava:E:=.not au9
abbrev Si:E:=.iff ava Sa
abbrev tJ:E:=cmp .lss (fn 1 (pr (fn 1 (pr N3 (.int 29))) (fn 6 (pr (fn 8 (pr bF (.int 5))) (.int 3))))) (.int 0)
abbrev tK:E:=var 18
abbrev H6:E:=cmp .eql tK (fn 120 (pr N3 (pr (fn 1 (pr (fn 1 (pr N3 (.int 29))) (fn 6 (pr (fn 8 (pr bF (.int 5))) (.int 1))))) (fn 9 (pr (fn 1 (pr N3 (.int 0))) (.int 12))))))
abbrev Sj:E:=cmp .eql (fn 1 (pr (fn 1 (pr N3 (.int 0))) (fn 6 (pr (fn 8 (pr tK (.int 12))) (.int 1))))) (fn 1 (pr (fn 1 (pr N3 (.int 29))) (fn 6 (pr (fn 8 (pr bF (.int 5))) (.int 2)))))
abbrev Sk:E:=fn 123 (pr N3 bF)
abbrev H7:=Sk::HW
abbrev tL:E:=.iff N2 (fn 125 N3)
abbrev Sl:E:=cmp .lss tK (.int 0)
abbrev Sm:E:=cmp .eql fA (fn 6 (pr (fn 134 (pr N3 (.int 8))) (fn 135 (pr N3 bF))))
abbrev Sn:=[HZ]
abbrev So:E:=fn 123 (pr N3 (fn 9 (pr (fn 1 (pr N3 (.int 29))) (.int 5))))
abbrev H9:=Sm::HW
abbrev avb:E:=cmp .lss (fn 6 (pr (.int 320) bF)) fA
abbrev Sp:E:=.not avb
abbrev avc:=R5::H9
abbrev avd:=Sp::avc
abbrev Sq:=mh::avd
abbrev Sr:=ig::Sq
abbrev bj:E:=var 24
abbrev nH:E:=cmp .lss bj (fn 9 (pr (fn 1 (pr N3 (.int 0))) (.int 12)))
abbrev w3:E:=cmp .lss (.int 0) bj
abbrev A5:=[nH,w3]
abbrev Ia:=mh::A5
abbrev nJ:E:=var 26
abbrev ph:E:=.iff nJ (fn 137 (pr (fn 1 (pr (fn 1 (pr N3 (.int 0))) (fn 6 (pr (fn 8 (pr bj (.int 12))) (.int 0))))) (pr (fn 1 (pr (fn 1 (pr N3 (.int 0))) (fn 6 (pr (fn 8 (pr bj (.int 12))) (.int 1))))) (pr (fn 1 (pr (fn 1 (pr N3 (.int 0))) (fn 6 (pr (fn 8 (pr bj (.int 12))) (.int 2))))) (pr (fn 1 (pr (fn 1 (pr N3 (.int 0))) (fn 6 (pr (fn 8 (pr bj (.int 12))) (.int 3))))) (pr (fn 1 (pr (fn 1 (pr N3 (.int 0))) (fn 6 (pr (fn 8 (pr bj (.int 12))) (.int 4))))) (pr (fn 1 (pr (fn 1 (pr N3 (.int 0))) (fn 6 (pr (fn 8 (pr bj (.int 12))) (.int 5))))) (pr (fn 1 (pr (fn 1 (pr N3 (.int 0))) (fn 6 (pr (fn 8 (pr bj (.int 12))) (.int 6))))) (pr (fn 1 (pr (fn 1 (pr N3 (.int 0))) (fn 6 (pr (fn 8 (pr bj (.int 12))) (.int 7))))) (fn 1 (pr (fn 1 (pr N3 (.int 0))) (fn 6 (pr (fn 8 (pr bj (.int 12))) (.int 8))))))))))))))
abbrev Ib:E:=fn 124 (pr N3 bj)
abbrev Ss:=mh::H7
abbrev Su:E:=fn 123 (pr N3 (.ar .add .i64 bF (.int 1)))
abbrev Ic:E:=.not w3
abbrev A6:E:=cmp .eql (var 27) (fn 122 (pr N3 (pr (fn 1 (pr (fn 1 (pr N3 (.int 0))) (fn 6 (pr (fn 8 (pr bj (.int 12))) (.int 2))))) (fn 1 (pr (fn 1 (pr N3 (.int 0))) (fn 6 (pr (fn 8 (pr bj (.int 12))) (.int 0))))))))
abbrev A7:E:=cmp .eql (var 27) (.int 1)
abbrev ave:E:=cmp .lss bj (.int 0)
abbrev Sw:E:=.not ave
abbrev Sx:=[Sw]
abbrev Sy:=Ib::Sx
abbrev Ie:=Ic::Sx
abbrev avf:E:=cmp .lss (.ar .add .i64 bj (.int 1)) (.int 0)
abbrev Sz:E:=.not avf
abbrev If:E:=cmp .lss (fn 1 (pr (fn 1 (pr N3 (.int 0))) (fn 6 (pr (fn 8 (pr (.ar .sub .i64 bj (.int 1)) (.int 12))) (.int 0))))) (fn 1 (pr (fn 1 (pr N3 (.int 0))) (fn 6 (pr (fn 8 (pr bj (.int 12))) (.int 0)))))
abbrev avg:=Sw::gC
abbrev A8:=Ib::avg
abbrev SB:=nH::Ie
abbrev avh:E:=cmp .lss (fn 9 (pr (fn 1 (pr N3 (.int 0))) (.int 12))) (.ar .add .i64 bj (.int 1))
abbrev SC:E:=.not avh
abbrev avi:E:=pr N3 (.ar .add .i64 bj (.int 1))
abbrev SD:E:=fn 124 avi
abbrev SE:E:=cmp .lss (fn 7 (pr (fn 9 (pr (fn 1 (pr N3 (.int 0))) (.int 12))) (.ar .add .i64 bj (.int 1)))) (fn 7 (pr (fn 9 (pr (fn 1 (pr N3 (.int 0))) (.int 12))) bj))
abbrev avj:E:=cmp .lss (fn 7 (pr (fn 9 (pr (fn 1 (pr N3 (.int 0))) (.int 12))) (.ar .add .i64 bj (.int 1)))) (.int 0)
abbrev SG:E:=.not avj
def aim:=fb [N1] iL<|ak fun ρ p0=>by
 have:=(@dW ρ N6 N4 N3 N7 N5 N0)
 simp only[aa]at *;grind
def ain:=fb [(.not RW)] wZ<|ak fun ρ p0=>by
 have:=EO ρ (pr N0 (.int 2))
 simp only[aa]at *;grind
def aio:=fb (pg::RW::H2::(.not H4)::SH) iL<|jh fun ρ p0 p1 p2 p3 p4 p5 p6 p7 p8 p9=>by
 have:=(@dW ρ N6 N4 N3 N7 N5 N0)
 simp only[aa]at *;grind
def aip:=fb [HX,N7] iL<|au fun ρ p0 p1=>by
 have:=(@dW ρ N6 N4 N3 N7 N5 N0)
 simp only[aa]at *;grind
def aiq:=fb [HX,(.not Ig)] wZ<|au fun ρ p0 p1=>by
 simp_all
def air:=fb [H4] iL<|ak fun ρ p0=>by
 have:=(@dW ρ N6 N4 N3 N7 N5 N0)
 simp only[aa]at *;grind
def ais:=fb [Ig] iL<|ak fun ρ p0=>by
 have:=(@dW ρ N6 N4 N3 N7 N5 N0)
 simp only[aa]at *;grind
def ait:=fb [Sh] iL<|ak fun ρ p0=>by
 have:=(@dW ρ N6 N4 N3 N7 N5 N0)
 simp only[aa]at *;grind
def aiu:=fb [H8] iL<|ak fun ρ p0=>by
 have:=(@dW ρ N6 N4 N3 N7 N5 N0)
 simp only[aa]at *;grind
def aiv:=fb [Sv] iL<|ak fun ρ p0=>by
 have:=(@dW ρ N6 N4 N3 N7 N5 N0)
 simp only[aa]at *;grind
def aiw:=fb [SA] iL<|ak fun ρ p0=>by
 have:=(@dW ρ N6 N4 N3 N7 N5 N0)
 simp only[aa]at *;grind
def aix:=fb [SF] iL<|ak fun ρ p0=>by
 have:=(@dW ρ N6 N4 N3 N7 N5 N0)
 simp only[aa]at *;grind
def aiy:=fb [pg] tM<|ak fun ρ p0=>by
 simp_all
def aiz:=fb [(.not N7)] tM<|ak fun ρ p0=>by
 simp_all
def aiA:=fa ((fn 101 (pr N0 (.int 0))))<|fun ρ=>by
 rfl
def aiB:=fb (ka::tN::A9::(.not Ba)::SK::(.not SL)::(.not Ih)::qR::tM::SN) iL<|DR fun ρ p0 p1 p2 p3 p4 p5 p6 p7 p8 p9 am av az aD aJ aL aU bg=>by
 have:=(@dW ρ N6 N4 N3 N7 N5 N0)
 have:=fun h0 h1=>@nh ρ _ _ (fn 9 (pr N0 (.int 2))) h0 h1 (fn 1 _) (fn 1 (pr N0 (fn 6 (pr (fn 8 (pr aS _)) _)))) rfl rfl
 simp only[aa]at *;grind
def aiC:=fb [wZ] wZ<|ak fun ρ p0=>by
 omega
def aiD:=fb (ka::tN::A9::Ba::mg) iL<|bl fun ρ p0 p1 p2 p3 p4=>by
 have:=(@dW ρ N6 N4 N3 N7 N5 N0)
 have:=fun h0 h1=>@nh ρ _ _ (fn 9 (pr N0 (.int 2))) h0 h1 _ (fn 1 (pr N0 (fn 6 (pr (fn 8 (pr aS _)) _)))) rfl rfl
 simp only[aa]at *;grind
def aiE:=fb (ka::tN::SJ::mg) iL<|aF fun ρ p0 p1 p2 p3=>by
 have:=(@dW ρ N6 N4 N3 N7 N5 N0)
 have:=fun h0 h1=>@nh ρ _ _ (fn 9 (pr N0 (.int 2))) h0 h1 _ (fn 1 (pr N0 (fn 6 (pr (fn 8 (pr aS _)) _)))) rfl rfl
 simp only[aa]at *;grind
def aiF:=fb (ka::tN::Ih::mg) iL<|aF fun ρ p0 p1 p2 p3=>by
 have:=(@dW ρ N6 N4 N3 N7 N5 N0)
 have:=fun h0 h1=>@nh ρ _ _ (fn 9 (pr N0 (.int 2))) h0 h1 (fn 1 _) (fn 1 (pr N0 (fn 6 (pr (fn 8 (pr aS _)) _)))) rfl rfl
 simp only[aa]at *;grind
def aiG:=fb (ka::SI::mg) iL<|ay fun ρ p0 p1 p2=>by
 have:=(@dW ρ N6 N4 N3 N7 N5 N0)
 have:=fun h0 h1=>@nh ρ _ _ (fn 9 (pr N0 (.int 2))) h0 h1 (fn 1 _) (fn 1 (pr N0 (fn 6 (pr (fn 8 (pr aS _)) _)))) rfl rfl
 simp only[aa]at *;grind
def aiH:=fb ((.not ka)::SO::tM::wZ::SN) (.iff (.bool true) RN)<|kH fun ρ p0 p1 p2 p3 p4 p5 p6 p7 p8 p9 am av az=>by
 have:=(@dW ρ N6 N4 N3 N7 N5 N0)
 have:=fun h1=>@afc ρ _ _ (fn 9 (pr N0 (.int 2))) p1 h1
 simp only[aa]at *;grind
def aiI:=fb [tM] tM<|ak fun ρ p0=>by
 omega
def aiJ:=fb (ka::Ii) Ij<|ay fun ρ p0 p1 p2=>by
 simp only[aa,ae]at *
 obtain⟨a,b,c⟩:=ab (E.I ρ aS+1)
 omega
def aiK:=fb (ka::mg) (.not (cmp .lss (fn 9 (pr N0 (.int 2))) (.ar .add .i64 aS (.int 1))))<|au fun ρ p0 p1=>by
 simp only[aa,ae]at *
 obtain⟨a,b,c⟩:=ab (E.I ρ aS+1)
 omega
def aiL:=fb (ka::tN::A9::(.not Ba)::SL::SP) SQ<|fB fun ρ p0 p1 p2 p3 p4 p5 p6 p7 p8=>by
 have:=@bY ρ aS (.int 1)
 have:=fun h0 hm=>@Gc ρ _ (.ar .add .i64 aS (.int 1)) _ p6 h0 hm (fn 1 _) (fn 1 _) rfl rfl
 simp only[aa]at *;grind
def aiM:=fb (ka::tN::A9::(.not Ba)::(.not SK)::SP) SQ<|fB fun ρ p0 p1 p2 p3 p4 p5 p6 p7 p8=>by
 have:=@bY ρ aS (.int 1)
 have:=fun h0 hm=>@Gc ρ _ (.ar .add .i64 aS (.int 1)) _ p6 h0 hm (fn 1 _) (fn 1 _) rfl rfl
 simp only[aa]at *;grind
def aiN:=fb (ka::Ii) (cmp .lss (fn 7 (pr (fn 9 (pr N0 (.int 2))) (.ar .add .i64 aS (.int 1)))) (fn 7 (pr (fn 9 (pr N0 (.int 2))) aS)))<|ay fun ρ p0 p1 p2=>by
 simp only[aa,ae]at *
 obtain⟨a,b,c⟩:=ab (E.I ρ aS+1)
 omega
def aiO:=fb (ka::mg) (.not (cmp .lss (fn 7 (pr (fn 9 (pr N0 (.int 2))) (.ar .add .i64 aS (.int 1)))) (.int 0)))<|au fun ρ p0 p1=>by
 simp only[aa,ae]at *
 obtain⟨a,b,c⟩:=ab (E.I ρ aS+1)
 omega
def bL:List Fa:=[aim,ain,aio,aip,aiq,air,ais,ait,aiu,aiv,aiw,aix,Pj,aiy,aiz,aiA,aiB,aiC,aiD,aiE,aiF,aiG,aiH,aiI,aiJ,aiK,aiL,aiM,aiN,aiO]
theorem aG6:aV Tryz.prog (bz (aGA)):=sc bL (aBe) ace ([]) (by kernel_rfl) (by kernel_rfl)
def acf:Nl:=nc aG6 ace
def aiP:=fb SS Ij<|ay fun ρ p0 p1 p2=>by
 simp only[aa,ae]at *
 obtain⟨a,b,c⟩:=ab (E.I ρ aS+1)
 omega
def aiQ:=fb [(.not nK),Ik] (cmp .eql jx (fn 121 (pr N3 N4)))<|au fun ρ p0 p1=>by
 have:=@aIw ρ N3 N4 aS
 simp only[aa]at *;grind
def Pr:=fb (nK::mg) (.not (cmp .lss (fn 0 N3) (.ar .add .i64 aS (.int 1))))<|au fun ρ p0 p1=>by
 simp only[aa,ae]at *
 obtain⟨a,b,c⟩:=ab (E.I ρ aS+1)
 omega
def aiR:=fb [(.not nK),Il,Ik,(.not (cmp .lss (fn 0 N3) aS))] (.not (cmp .lss (fn 0 N3) jx))<|aF fun ρ p0 p1 p2 p3=>by
 simp only[aa]at *;omega
def aiS:=fb (nK::SU::Im) (cmp .eql (.ar .add .i64 jx (.int 1)) (fn 131 (pr N3 (pr N4 (.ar .add .i64 aS (.int 1))))))<|eZ fun ρ p0 p1 p2 p3 p4 p5 p6=>by
 have:=@bY ρ aS (.int 1)
 have:=@NI ρ N3 N4 aS (.ar .add .i64 aS (.int 1))
 simp only[aa,ae]at *
 obtain⟨a,b,c⟩:=ab (E.I ρ jx+1)
 omega
def aiT:=fb (nK::(.not SU)::Im) (cmp .eql jx (fn 131 (pr N3 (pr N4 (.ar .add .i64 aS (.int 1))))))<|eZ fun ρ p0 p1 p2 p3 p4 p5 p6=>by
 have:=@bY ρ aS (.int 1)
 have:=@NI ρ N3 N4 aS (.ar .add .i64 aS (.int 1))
 simp only[aa]at *;grind
def aiU:=fb SY (.not (cmp .lss (.ar .add .i64 jx (.int 1)) (.int 0)))<|cz fun ρ p0 p1 p2 p3 p4 p5=>by
 simp only[aa,ae]at *
 obtain⟨a,b,c⟩:=ab (E.I ρ jx+1)
 omega
def aiV:=fb (nK::Il::SW) (.not (cmp .lss (.ar .add .i64 aS (.int 1)) jx))<|bl fun ρ p0 p1 p2 p3 p4=>by
 simp only[aa,ae]at *
 obtain⟨a,b,c⟩:=ab (E.I ρ aS+1)
 omega
def aiW:=fb SY (.not (cmp .lss (.ar .add .i64 aS (.int 1)) (.ar .add .i64 jx (.int 1))))<|cz fun ρ p0 p1 p2 p3 p4 p5=>by
 simp only[aa,ae]at *
 obtain⟨a,b,c⟩:=ab (E.I ρ aS+1)
 obtain⟨d,f,g⟩:=ab (E.I ρ jx+1)
 omega
def aiX:=fb SS (cmp .lss (fn 7 (pr (fn 0 N3) (.ar .add .i64 aS (.int 1)))) (fn 7 (pr (fn 0 N3) aS)))<|ay fun ρ p0 p1 p2=>by
 simp only[aa,ae]at *
 obtain⟨a,b,c⟩:=ab (E.I ρ aS+1)
 omega
def Ps:=fb (nK::mg) (.not (cmp .lss (fn 7 (pr (fn 0 N3) (.ar .add .i64 aS (.int 1)))) (.int 0)))<|au fun ρ p0 p1=>by
 simp only[aa,ae]at *
 obtain⟨a,b,c⟩:=ab (E.I ρ aS+1)
 omega
def bW:List Fa:=[PE,aiP,aiQ,Pr,aiR,aiS,aiT,aiU,aiV,aiW,aiX,Ps]
theorem aG7:aV Tryz.prog (bz (aGl)):=sc bW (aA6) acf ([]) (by kernel_rfl) (by kernel_rfl)
def acg:Nl:=nc aG7 acf
def aiY:=fa ((cmp .eql (fn 120 (pr N3 (pr N4 (.int 0)))) (.int (-1))))<|fun ρ=>by
 rfl
def aiZ:=fb (Bb::SZ::In::mg) (cmp .eql aS (fn 120 (pr N3 (pr N4 (fn 9 (pr (fn 1 (pr N3 (.int 0))) (.int 12)))))))<|aF fun ρ p0 p1 p2 p3=>by
 have:=fun h=>@afj ρ N4 _ (fn 6 (pr aS (.int 1))) _ (fn 9 (pr (fn 1 (pr N3 (.int 0))) (.int 12))) h (fn 1 (pr (fn 1 (pr N3 _)) (fn 6 (pr (fn 8 (pr aS _)) _)))) rfl
 simp only[aa]at *;grind
def ai0:=fb (mh::Bc) Ij<|ay fun ρ p0 p1 p2=>by
 have:=ao p0
 simp only[aa,ae]at *
 obtain⟨a,b,c⟩:=ab (E.I ρ aS+1)
 omega
def ai1:=fb [(.not Bb),In,(.not (cmp .lss (fn 9 (pr (fn 1 (pr N3 (.int 0))) (.int 12))) aS))] (cmp .eql (fn 120 (pr N3 (pr N4 (fn 9 (pr (fn 1 (pr N3 (.int 0))) (.int 12)))))) (.int (-1)))<|ay fun ρ p0 p1 p2=>by
 have:=@aIv ρ N4 aS (fn 9 (pr (fn 1 (pr N3 (.int 0))) (.int 12))) N3
 simp only[aa]at *;grind
def ai2:=fb Bc (.not (cmp .lss (fn 9 (pr (fn 1 (pr N3 (.int 0))) (.int 12))) (.ar .add .i64 aS (.int 1))))<|au fun ρ p0 p1=>by
 simp only[aa,ae]at *
 obtain⟨a,b,c⟩:=ab (E.I ρ aS+1)
 omega
def ai3:=fb (Bb::(.not SZ)::In::qR::gC) (cmp .eql (fn 120 (pr N3 (pr N4 (.ar .add .i64 aS (.int 1))))) (.int (-1)))<|bl fun ρ p0 p1 p2 p3 p4=>by
 have:=ao p4
 have:=@bY ρ aS (.int 1)
 have:=fun h=>@afj ρ N4 _ (.ar .add .i64 aS (.int 1)) _ (fn 9 (pr (fn 1 (pr N3 (.int 0))) (.int 12))) h (fn 1 (pr (fn 1 (pr N3 _)) (fn 6 (pr (fn 8 (pr aS _)) _)))) rfl
 simp only[aa]at *;grind
def ai4:=fb (mh::Bc) (cmp .lss (fn 7 (pr (fn 9 (pr (fn 1 (pr N3 (.int 0))) (.int 12))) (.ar .add .i64 aS (.int 1)))) (fn 7 (pr (fn 9 (pr (fn 1 (pr N3 (.int 0))) (.int 12))) aS)))<|ay fun ρ p0 p1 p2=>by
 have:=ao p0
 simp only[aa,ae]at *
 obtain⟨a,b,c⟩:=ab (E.I ρ aS+1)
 omega
def ai5:=fb Bc (.not (cmp .lss (fn 7 (pr (fn 9 (pr (fn 1 (pr N3 (.int 0))) (.int 12))) (.ar .add .i64 aS (.int 1)))) (.int 0)))<|au fun ρ p0 p1=>by
 simp only[aa,ae]at *
 obtain⟨a,b,c⟩:=ab (E.I ρ aS+1)
 omega
def cf:List Fa:=[AJ,aiY,aiZ,ai0,ai1,ai2,ai3,ai4,ai5]
theorem aG8:aV Tryz.prog (bz (aGy)):=sc cf (aBc) acg ([]) (by kernel_rfl) (by kernel_rfl)
def ach:Nl:=nc aG8 acg
def ai6:=fb gC (.not (cmp .lss (.int 1000) (fn 0 (fn 1 (pr N3 (.int 6))))))<|ak fun ρ p0=>by
 have:=ao p0
 simp only[aa]at *;omega
def ai7:=fb gC (.not (cmp .lss (.int 1000) (fn 0 (fn 1 (pr N3 (.int 20))))))<|ak fun ρ p0=>by
 have:=ao p0
 simp only[aa]at *;omega
def ai8:=fb gC (.not (cmp .lss (.int 1000) (fn 0 (fn 1 (pr N3 (.int 7))))))<|ak fun ρ p0=>by
 have:=ao p0
 simp only[aa]at *;omega
def ai9:=fb gC (.not (cmp .lss (.int 1000) (fn 0 (fn 1 (pr N3 (.int 21))))))<|ak fun ρ p0=>by
 have:=ao p0
 simp only[aa]at *;omega
def Pt:=fb gC (.not (cmp .lss (.int 1000) (fn 0 (fn 1 (pr N3 (.int 8))))))<|ak fun ρ p0=>by
 have:=ao p0
 simp only[aa]at *;omega
def Pv:=fb gC (.not (cmp .lss (.int 1000) (fn 0 (fn 1 (pr N3 (.int 22))))))<|ak fun ρ p0=>by
 have:=ao p0
 simp only[aa]at *;omega
def aja:=fb gC (.not (cmp .lss (.int 1000) (fn 0 (fn 1 (pr N3 (.int 9))))))<|ak fun ρ p0=>by
 have:=ao p0
 simp only[aa]at *;omega
def ajb:=fb gC (.not (cmp .lss (.int 1000) (fn 0 (fn 1 (pr N3 (.int 23))))))<|ak fun ρ p0=>by
 have:=ao p0
 simp only[aa]at *;omega
def ajc:=fb (S0::HV) RK<|mP fun ρ p0 p1 p2 p3 p4 p5 p6 p7 p8 p9 am av az aD=>by
 have:=ao aD
 have:=@aIC ρ N5 N4 N3
 have:=@afm ρ N5 N4 N3 (.int 0)
 simp only[aa,ae]at *
 obtain⟨a,b,c⟩:=ab ((0)+(E.I ρ N6))
 simp only[b]at *
 obtain⟨d,f,g⟩:=ab (a+(E.I ρ N0))
 simp only[f]at *
 obtain⟨i,j,k⟩:=ab (d+(E.I ρ N7))
 simp only[j]at *
 obtain⟨l,m,n⟩:=ab (i+(E.I ρ dQ))
 omega
def ajd:=fb ((.not S0)::RL::pg::RM::RO::Bd::RP::RQ::ll::RR::RS::nF::RT::(.not (cmp .lss (.int 1) N4))::A1::gC) RK<|pP fun ρ p0 p1 p2 p3 p4 p5 p6 p7 p8 p9 am av az aD aJ aL=>by
 have:=ao aL
 have:=@aID ρ N5 N4 N3
 have:=@afm ρ N5 N4 N3 (.int 0)
 simp only[aa,ae]at *
 obtain⟨a,b,c⟩:=ab ((0)+(E.I ρ N6))
 simp only[b]at *
 obtain⟨d,f,g⟩:=ab (a+(E.I ρ N0))
 simp only[f]at *
 obtain⟨i,j,k⟩:=ab (d+(E.I ρ N7))
 simp only[j]at *
 obtain⟨l,m,n⟩:=ab (i+(E.I ρ dQ))
 omega
def aje:=fb HV RV<|kH fun ρ p0 p1 p2 p3 p4 p5 p6 p7 p8 p9 am av az=>by
 have:=ao az
 simp only[aa,ae]at *
 obtain⟨a,b,c⟩:=ab ((0)+(E.I ρ N6))
 simp only[b]at *
 obtain⟨d,f,g⟩:=ab (a+(E.I ρ N0))
 simp only[f]at *
 obtain⟨i,j,k⟩:=ab (d+(E.I ρ N7))
 simp only[j]at *
 obtain⟨l,m,n⟩:=ab (i+(E.I ρ dQ))
 omega
def ajf:=fb RX RV<|kH fun ρ p0 p1 p2 p3 p4 p5 p6 p7 p8 p9 am av az=>by
 have:=ao az
 simp only[aa,ae]at *
 obtain⟨a,b,c⟩:=ab ((0)+(E.I ρ N6))
 simp only[b]at *
 obtain⟨d,f,g⟩:=ab (a+(E.I ρ N0))
 simp only[f]at *
 obtain⟨i,j,k⟩:=ab (d+(E.I ρ N7))
 simp only[j]at *
 obtain⟨l,m,n⟩:=ab (i+(E.I ρ dQ))
 omega
def ajg:=fb HV RY<|kH fun ρ p0 p1 p2 p3 p4 p5 p6 p7 p8 p9 am av az=>by
 have:=ao az
 simp only[aa,ae]at *
 obtain⟨a,b,c⟩:=ab ((0)+(E.I ρ N6))
 simp only[b]at *
 obtain⟨d,f,g⟩:=ab (a+(E.I ρ N0))
 simp only[f]at *
 obtain⟨i,j,k⟩:=ab (d+(E.I ρ N7))
 simp only[j]at *
 obtain⟨l,m,n⟩:=ab (i+(E.I ρ dQ))
 omega
def ajh:=fb RX RY<|kH fun ρ p0 p1 p2 p3 p4 p5 p6 p7 p8 p9 am av az=>by
 have:=ao az
 simp only[aa,ae]at *
 obtain⟨a,b,c⟩:=ab ((0)+(E.I ρ N6))
 simp only[b]at *
 obtain⟨d,f,g⟩:=ab (a+(E.I ρ N0))
 simp only[f]at *
 obtain⟨i,j,k⟩:=ab (d+(E.I ρ N7))
 simp only[j]at *
 obtain⟨l,m,n⟩:=ab (i+(E.I ρ dQ))
 omega
def Px:=fb A2 (.not (cmp .lss (.ar .add .i64 bF (.int 1)) (.int 0)))<|ay fun ρ p0 p1 p2=>by
 have:=ao p0
 simp only[aa,ae]at *
 obtain⟨a,b,c⟩:=ab (E.I ρ bF+1)
 omega
def aji:=fb [A3,HY,HZ,A1] (cmp .eql fA (fn 122 (pr N3 (pr N4 N5))))<|aF fun ρ p0 p1 p2 p3=>by
 have:=@aIx ρ N5 N4 N3 bF
 simp only[aa]at *;grind
def Py:=fb A2 (.not (cmp .lss (fn 9 (pr (fn 1 (pr N3 (.int 29))) (.int 5))) (.ar .add .i64 bF (.int 1))))<|ay fun ρ p0 p1 p2=>by
 simp only[aa,ae]at *
 obtain⟨a,b,c⟩:=ab (E.I ρ bF+1)
 omega
def ajj:=fb (A3::H0::HY::HZ::gC) (.not (cmp .lss (.int 1000) fA))<|bl fun ρ p0 p1 p2 p3 p4=>by
 have:=ao p4
 simp only[aa]at *;omega
def ajk:=fb (ig::R0::R3::R4::R6) (cmp .eql (.ar .add .i64 fA (.int 1)) (fn 6 (pr (fn 132 (pr N3 (pr N4 (pr (.int 4) N5)))) (fn 133 (pr N3 (pr N4 (pr N5 (.ar .add .i64 bF (.int 1)))))))))<|fB fun ρ p0 p1 p2 p3 p4 p5 p6 p7 p8=>by
 have:=ao p8
 have:=@bY ρ bF (.int 1)
 have:=@Gk ρ N5 N4 (.ar .add .i64 bF (.int 1)) _ _ _ _ (fn 1 (pr (fn 1 (pr N3 _)) (fn 6 (pr (fn 8 (pr bF _)) _)))) rfl rfl rfl
 simp only[aa,ae]at *
 obtain⟨a,b,c⟩:=ab (E.I ρ fA+1)
 omega
def ajl:=fb (ig::(.not R4)::wY) H1<|bl fun ρ p0 p1 p2 p3 p4=>by
 have:=ao p4
 have:=@bY ρ bF (.int 1)
 have:=@Gk ρ N5 N4 (.ar .add .i64 bF (.int 1)) _ _ _ _ (fn 1 (pr (fn 1 (pr N3 _)) (fn 6 (pr (fn 8 (pr bF _)) _)))) rfl rfl rfl
 simp only[aa]at *;grind
def ajm:=fb (ig::(.not R3)::wY) H1<|bl fun ρ p0 p1 p2 p3 p4=>by
 have:=ao p4
 have:=@bY ρ bF (.int 1)
 have:=@Gk ρ N5 N4 (.ar .add .i64 bF (.int 1)) _ _ _ _ (fn 1 (pr (fn 1 (pr N3 _)) (fn 6 (pr (fn 8 (pr bF _)) _)))) rfl rfl rfl
 simp only[aa]at *;grind
def ajn:=fb (ig::(.not R0)::wY) H1<|bl fun ρ p0 p1 p2 p3 p4=>by
 have:=ao p4
 have:=@bY ρ bF (.int 1)
 have:=@Gk ρ N5 N4 (.ar .add .i64 bF (.int 1)) _ _ _ _ (fn 1 (pr (fn 1 (pr N3 _)) (fn 6 (pr (fn 8 (pr bF _)) _)))) rfl rfl rfl
 simp only[aa]at *;grind
def ajo:=fb R7 R8<|cz fun ρ p0 p1 p2 p3 p4 p5=>by
 have:=ao p5
 simp only[aa,ae]at *
 obtain⟨a,b,c⟩:=ab (E.I ρ fA+1)
 omega
def ajp:=fb (ig::H0::wY) (.not (cmp .lss (fn 6 (pr (.int 160) (.ar .add .i64 bF (.int 1)))) fA))<|bl fun ρ p0 p1 p2 p3 p4=>by
 have:=ao p4
 simp only[aa,ae]at *
 obtain⟨a,b,c⟩:=ab (E.I ρ bF+1)
 omega
def ajq:=fb R7 (.not (cmp .lss (fn 6 (pr (.int 160) (.ar .add .i64 bF (.int 1)))) (.ar .add .i64 fA (.int 1))))<|cz fun ρ p0 p1 p2 p3 p4 p5=>by
 have:=ao p5
 simp only[aa,ae]at *
 obtain⟨a,b,c⟩:=ab (E.I ρ bF+1)
 obtain⟨d,f,g⟩:=ab (E.I ρ fA+1)
 omega
def Pz:=fb A2 (cmp .lss (fn 7 (pr (fn 9 (pr (fn 1 (pr N3 (.int 29))) (.int 5))) (.ar .add .i64 bF (.int 1)))) (fn 7 (pr (fn 9 (pr (fn 1 (pr N3 (.int 29))) (.int 5))) bF)))<|ay fun ρ p0 p1 p2=>by
 have:=ao p0
 simp only[aa,ae]at *
 obtain⟨a,b,c⟩:=ab (E.I ρ bF+1)
 omega
def PA:=fb A2 (.not (cmp .lss (fn 7 (pr (fn 9 (pr (fn 1 (pr N3 (.int 29))) (.int 5))) (.ar .add .i64 bF (.int 1)))) (.int 0)))<|ay fun ρ p0 p1 p2=>by
 simp only[aa,ae]at *
 obtain⟨a,b,c⟩:=ab (E.I ρ bF+1)
 omega
def cG:List Fa:=[ai6,ai7,ai8,ai9,Pt,Pv,aja,ajb,ny,ajc,ajd,aje,ajf,ajg,ajh,Px,aji,Py,ajj,ajk,ajl,ajm,ajn,ajo,ajp,ajq,Pz,PA]
theorem aG9:aV Tryz.prog (bz (aGH)):=sc cG (aBi) ach ([]) (by kernel_rfl) (by kernel_rfl)
def aci:Nl:=nc aG9 ach
def ajr:=fb [i9,ja,jw,R9] j9<|aF fun ρ p0 p1 p2 p3=>by
 have:=@cW ρ N3 N4 N5 N6 N0 N7 dQ gU aS
 simp only[aa]at *;grind
def ajs:=fb (i9::ja::jw::lk::A1::mf::(.not nG)::Sb) j9<|fB fun ρ p0 p1 p2 p3 p4 p5 p6 p7 p8=>by
 have:=@cW ρ N3 N4 N5 N6 N0 N7 dQ gU aS
 simp only[aa]at *;grind
def ajt:=fb [i9,ja,jw,lk,mf,nG,S1] j9<|eZ fun ρ p0 p1 p2 p3 p4 p5 p6=>by
 have:=@cW ρ N3 N4 N5 N6 N0 N7 dQ gU aS
 simp only[aa]at *;grind
def aju:=fb [i9,ja,jw,lk,mf,nG,ll,RJ] j9<|dO fun ρ p0 p1 p2 p3 p4 p5 p6 p7=>by
 have:=@cW ρ N3 N4 N5 N6 N0 N7 dQ gU aS
 simp only[aa]at *;grind
def ajv:=fb [i9,ja,jw,lk,mf,nG,ll,nF,Sc] j9<|fB fun ρ p0 p1 p2 p3 p4 p5 p6 p7 p8=>by
 have:=@cW ρ N3 N4 N5 N6 N0 N7 dQ gU aS
 simp only[aa]at *;grind
def ajw:=fb [i9,ja,jw,lk,mf,nG,ll,nF,A4,SM] j9<|jh fun ρ p0 p1 p2 p3 p4 p5 p6 p7 p8 p9=>by
 have:=@cW ρ N3 N4 N5 N6 N0 N7 dQ gU aS
 simp only[aa]at *;grind
def ajx:=fb (i9::ja::jw::lk::mf::nG::ll::nF::A4::qR::H3::(.not H5)::Sg) Si<|yV fun ρ p0 p1 p2 p3 p4 p5 p6 p7 p8 p9 am av az aD aJ=>by
 have:=@cW ρ N3 N4 N5 N6 N0 N7 dQ gU aS
 simp only[aa]at *;grind
def ajy:=fb [i9,ja,jw,lk,mf,nG,ll,nF,A4,Sf] j9<|jh fun ρ p0 p1 p2 p3 p4 p5 p6 p7 p8 p9=>by
 have:=@cW ρ N3 N4 N5 N6 N0 N7 dQ gU aS
 simp only[aa]at *;grind
def ajz:=fb [i9,ja,jw,lk,mf,nG,ll,nF,Se] j9<|fB fun ρ p0 p1 p2 p3 p4 p5 p6 p7 p8=>by
 have:=@cW ρ N3 N4 N5 N6 N0 N7 dQ gU aS
 simp only[aa]at *;grind
def ajA:=fb [i9,ja,jw,lk,mf,nG,ll,Sd] j9<|dO fun ρ p0 p1 p2 p3 p4 p5 p6 p7=>by
 have:=@cW ρ N3 N4 N5 N6 N0 N7 dQ gU aS
 simp only[aa]at *;grind
def ajB:=fb (i9::ja::jw::lk::A1::(.not mf)::Sb) j9<|dO fun ρ p0 p1 p2 p3 p4 p5 p6 p7=>by
 have:=@cW ρ N3 N4 N5 N6 N0 N7 dQ gU aS
 simp only[aa]at *;grind
def ajC:=fb (i9::ja::jw::lk::RU::pg::Bd::ll::nF::A4::qR::H3::(.not (cmp .lss (.int 99) N6))::(.not (cmp .lss (.int 99) N0))::Sg) Si<|lP fun ρ p0 p1 p2 p3 p4 p5 p6 p7 p8 p9 am av az aD aJ aL aU=>by
 have:=@cW ρ N3 N4 N5 N6 N0 N7 dQ gU aS
 simp only[aa]at *;grind
def ajD:=fb [i9,ja,H8] j9<|ay fun ρ p0 p1 p2=>by
 have:=@cW ρ N3 N4 N5 N6 N0 N7 dQ gU aS
 simp only[aa]at *;grind
def ajE:=fb [i9,ja,H5] j9<|ay fun ρ p0 p1 p2=>by
 have:=@cW ρ N3 N4 N5 N6 N0 N7 dQ gU aS
 simp only[aa]at *;grind
def dg:List Fa:=[ajr,ajs,ajt,aju,ajv,ajw,ajx,ajy,ajz,ajA,ajB,Qb,Qa,P9,P8,P0,PR,ajC,PM,PL,PK,PJ,PI,ajD,ajE,PN,PO,PP]
theorem aHa:aV Tryz.prog (bz (aeY 84)):=sc dg ([]) aci ([]) (by kernel_rfl) (by kernel_rfl)
def acj:Nl:=nc aHa aci
def ajF:=fb gC (cmp .eql (.ar .add .i64 (.ar .add .i64 (.ar .add .i64 (.ar .add .i64 (.ar .add .i64 (.ar .add .i64 (.ar .add .i64 (.ar .add .i64 (.int 0) (fn 0 (fn 1 (pr N3 (.int 6))))) (fn 0 (fn 1 (pr N3 (.int 7))))) (fn 0 (fn 1 (pr N3 (.int 8))))) (fn 0 (fn 1 (pr N3 (.int 9))))) (fn 0 (fn 1 (pr N3 (.int 20))))) (fn 0 (fn 1 (pr N3 (.int 21))))) (fn 0 (fn 1 (pr N3 (.int 22))))) (fn 0 (fn 1 (pr N3 (.int 23))))) (fn 6 (pr (fn 134 (pr N3 (.int 8))) (fn 135 (pr N3 (.int 0))))))<|ak fun ρ p0=>by
 have:=ao p0
 have:=@aIE ρ N3
 have:=@aIG ρ N3 (.int 0)
 simp only[aa,ae]at *
 have:=@fk ρ (fn 1 (pr N3 (.int 6)))
 have:=@fk ρ (fn 1 (pr N3 (.int 7)))
 have:=@fk ρ (fn 1 (pr N3 (.int 8)))
 have:=@fk ρ (fn 1 (pr N3 (.int 9)))
 have:=@fk ρ (fn 1 (pr N3 (.int 20)))
 have:=@fk ρ (fn 1 (pr N3 (.int 21)))
 have:=@fk ρ (fn 1 (pr N3 (.int 22)))
 have:=@fk ρ (fn 1 (pr N3 (.int 23)))
 obtain⟨a,b,c⟩:=ab ((0)+(E.I ρ (fn 0 (fn 1 (pr N3 (.int 6))))))
 obtain⟨d,f,g⟩:=ab (a+(E.I ρ (fn 0 (fn 1 (pr N3 (.int 7))))))
 obtain⟨i,j,k⟩:=ab (d+(E.I ρ (fn 0 (fn 1 (pr N3 (.int 8))))))
 obtain⟨l,m,n⟩:=ab (i+(E.I ρ (fn 0 (fn 1 (pr N3 (.int 9))))))
 obtain⟨o,r,s⟩:=ab (l+(E.I ρ (fn 0 (fn 1 (pr N3 (.int 20))))))
 obtain⟨t,u,v⟩:=ab (o+(E.I ρ (fn 0 (fn 1 (pr N3 (.int 21))))))
 obtain⟨w,x,y⟩:=ab (t+(E.I ρ (fn 0 (fn 1 (pr N3 (.int 22))))))
 obtain⟨z,ea17,qa17⟩:=ab (w+(E.I ρ (fn 0 (fn 1 (pr N3 (.int 23))))))
 grind
def ajG:=fb gC (.not (cmp .lss (.ar .add .i64 (.ar .add .i64 (.ar .add .i64 (.ar .add .i64 (.ar .add .i64 (.ar .add .i64 (.ar .add .i64 (.ar .add .i64 (.int 0) (fn 0 (fn 1 (pr N3 (.int 6))))) (fn 0 (fn 1 (pr N3 (.int 7))))) (fn 0 (fn 1 (pr N3 (.int 8))))) (fn 0 (fn 1 (pr N3 (.int 9))))) (fn 0 (fn 1 (pr N3 (.int 20))))) (fn 0 (fn 1 (pr N3 (.int 21))))) (fn 0 (fn 1 (pr N3 (.int 22))))) (fn 0 (fn 1 (pr N3 (.int 23))))) (.int 0)))<|ak fun ρ p0=>by
 have:=ao p0
 simp only[aa,ae]at *
 have:=@fk ρ (fn 1 (pr N3 (.int 6)))
 have:=@fk ρ (fn 1 (pr N3 (.int 7)))
 have:=@fk ρ (fn 1 (pr N3 (.int 8)))
 have:=@fk ρ (fn 1 (pr N3 (.int 9)))
 have:=@fk ρ (fn 1 (pr N3 (.int 20)))
 have:=@fk ρ (fn 1 (pr N3 (.int 21)))
 have:=@fk ρ (fn 1 (pr N3 (.int 22)))
 have:=@fk ρ (fn 1 (pr N3 (.int 23)))
 obtain⟨a,b,c⟩:=ab ((0)+(E.I ρ (fn 0 (fn 1 (pr N3 (.int 6))))))
 obtain⟨d,f,g⟩:=ab (a+(E.I ρ (fn 0 (fn 1 (pr N3 (.int 7))))))
 obtain⟨i,j,k⟩:=ab (d+(E.I ρ (fn 0 (fn 1 (pr N3 (.int 8))))))
 obtain⟨l,m,n⟩:=ab (i+(E.I ρ (fn 0 (fn 1 (pr N3 (.int 9))))))
 obtain⟨o,r,s⟩:=ab (l+(E.I ρ (fn 0 (fn 1 (pr N3 (.int 20))))))
 obtain⟨t,u,v⟩:=ab (o+(E.I ρ (fn 0 (fn 1 (pr N3 (.int 21))))))
 obtain⟨w,x,y⟩:=ab (t+(E.I ρ (fn 0 (fn 1 (pr N3 (.int 22))))))
 obtain⟨z,ea15,qa15⟩:=ab (w+(E.I ρ (fn 0 (fn 1 (pr N3 (.int 23))))))
 grind
def ajH:=fb gC (.not (cmp .lss (.int 320) (.ar .add .i64 (.ar .add .i64 (.ar .add .i64 (.ar .add .i64 (.ar .add .i64 (.ar .add .i64 (.ar .add .i64 (.ar .add .i64 (.int 0) (fn 0 (fn 1 (pr N3 (.int 6))))) (fn 0 (fn 1 (pr N3 (.int 7))))) (fn 0 (fn 1 (pr N3 (.int 8))))) (fn 0 (fn 1 (pr N3 (.int 9))))) (fn 0 (fn 1 (pr N3 (.int 20))))) (fn 0 (fn 1 (pr N3 (.int 21))))) (fn 0 (fn 1 (pr N3 (.int 22))))) (fn 0 (fn 1 (pr N3 (.int 23)))))))<|ak fun ρ p0=>by
 have:=ao p0
 simp only[aa,ae]at *
 have:=@fk ρ (fn 1 (pr N3 (.int 6)))
 have:=@fk ρ (fn 1 (pr N3 (.int 7)))
 have:=@fk ρ (fn 1 (pr N3 (.int 8)))
 have:=@fk ρ (fn 1 (pr N3 (.int 9)))
 have:=@fk ρ (fn 1 (pr N3 (.int 20)))
 have:=@fk ρ (fn 1 (pr N3 (.int 21)))
 have:=@fk ρ (fn 1 (pr N3 (.int 22)))
 have:=@fk ρ (fn 1 (pr N3 (.int 23)))
 obtain⟨a,b,c⟩:=ab ((0)+(E.I ρ (fn 0 (fn 1 (pr N3 (.int 6))))))
 obtain⟨d,f,g⟩:=ab (a+(E.I ρ (fn 0 (fn 1 (pr N3 (.int 7))))))
 obtain⟨i,j,k⟩:=ab (d+(E.I ρ (fn 0 (fn 1 (pr N3 (.int 8))))))
 obtain⟨l,m,n⟩:=ab (i+(E.I ρ (fn 0 (fn 1 (pr N3 (.int 9))))))
 obtain⟨o,r,s⟩:=ab (l+(E.I ρ (fn 0 (fn 1 (pr N3 (.int 20))))))
 obtain⟨t,u,v⟩:=ab (o+(E.I ρ (fn 0 (fn 1 (pr N3 (.int 21))))))
 obtain⟨w,x,y⟩:=ab (t+(E.I ρ (fn 0 (fn 1 (pr N3 (.int 22))))))
 obtain⟨z,ea15,qa15⟩:=ab (w+(E.I ρ (fn 0 (fn 1 (pr N3 (.int 23))))))
 grind
def ajI:=fa ((fn 123 (pr N3 (.int 0))))<|fun ρ=>by
 rfl
def ajJ:=fb (ig::tJ::H6::(.not Sj)::H7) tL<|cz fun ρ p0 p1 p2 p3 p4 p5=>by
 have:=@Gs ρ (fn 6 (pr bF (.int 1))) _ _ p4 _ _ _ _ (fn 1 (pr _ (fn 6 (pr (fn 8 (pr tK _)) _)))) rfl rfl rfl rfl
 simp only[aa]at *;grind
def ajK:=fb (ig::tJ::H6::Sl::H7) tL<|cz fun ρ p0 p1 p2 p3 p4 p5=>by
 have:=@Gs ρ (fn 6 (pr bF (.int 1))) _ _ p4 _ _ _ _ (fn 1 (pr _ (fn 6 (pr (fn 8 (pr tK _)) _)))) rfl rfl rfl rfl
 simp only[aa]at *;grind
def ajL:=fb (A3::Sm::Sn) (cmp .eql fA (fn 6 (pr (fn 134 (pr N3 (.int 8))) (fn 135 (pr N3 (fn 9 (pr (fn 1 (pr N3 (.int 29))) (.int 5))))))))<|ay fun ρ p0 p1 p2=>by
 have:=@aIF ρ (fn 9 (pr (fn 1 (pr N3 (.int 29))) (.int 5))) N3 bF
 simp only[aa]at *;grind
def ajM:=fb (A3::mh::Sk::Sn) So<|aF fun ρ p0 p1 p2 p3=>by
 have g0:E.I ρ (fn 9 (pr (fn 1 (pr N3 (.int 29))) (.int 5)))=E.I ρ bF:=by
  simp only[aa]at *;omega
 grind[aIy]
def ajN:=fb (ig::(.not tJ)::mh::H9) (cmp .eql fA (fn 6 (pr (fn 134 (pr N3 (.int 8))) (fn 135 (pr N3 (.ar .add .i64 bF (.int 1)))))))<|bl fun ρ p0 p1 p2 p3 p4=>by
 have:=ao p2
 have:=@bY ρ bF (.int 1)
 have:=@afn ρ (.ar .add .i64 bF (.int 1)) _ _ (fn 1 (pr (fn 1 (pr N3 _)) (fn 6 (pr (fn 8 (pr bF _)) _)))) rfl
 simp only[aa]at *;grind
def ajO:=fb (ig::tJ::Sq) (cmp .eql (.ar .add .i64 fA (.int 1)) (fn 6 (pr (fn 134 (pr N3 (.int 8))) (fn 135 (pr N3 (.ar .add .i64 bF (.int 1)))))))<|eZ fun ρ p0 p1 p2 p3 p4 p5 p6=>by
 have:=ao p2
 have:=@bY ρ bF (.int 1)
 have:=@afn ρ (.ar .add .i64 bF (.int 1)) _ _ (fn 1 (pr (fn 1 (pr N3 _)) (fn 6 (pr (fn 8 (pr bF _)) _)))) rfl
 simp only[aa,ae]at *
 obtain⟨a,b,c⟩:=ab (E.I ρ fA+1)
 omega
def ajP:=fa ((fn 124 (pr N3 (.int 0))))<|fun ρ=>by
 rfl
def ajQ:=fb (ig::mh::Sp::H9) (.not (cmp .lss (fn 6 (pr (.int 320) (.ar .add .i64 bF (.int 1)))) fA))<|bl fun ρ p0 p1 p2 p3 p4=>by
 have:=ao p1
 simp only[aa,ae]at *
 obtain⟨a,b,c⟩:=ab (E.I ρ bF+1)
 omega
def ajR:=fb Sr R8<|cz fun ρ p0 p1 p2 p3 p4 p5=>by
 have:=ao p1
 simp only[aa,ae]at *
 obtain⟨a,b,c⟩:=ab (E.I ρ fA+1)
 omega
def ajS:=fb Ia (.not (cmp .lss (.ar .sub .i64 bj (.int 1)) (.int 0)))<|ay fun ρ p0 p1 p2=>by
 have:=ao p0
 simp only[aa,ae]at *
 obtain⟨a,b,c⟩:=ab ((E.I ρ bj)-(1))
 omega
def ajT:=fb [ph,nJ] (.not (cmp .lss (fn 1 (pr (fn 1 (pr N3 (.int 0))) (fn 6 (pr (fn 8 (pr bj (.int 12))) (.int 2))))) (.int 0)))<|au fun ρ p0 p1=>by
 have:=@cW ρ (fn 1 (pr (fn 1 (pr N3 (.int 0))) (fn 6 (pr (fn 8 (pr bj (.int 12))) (.int 0))))) (fn 1 (pr (fn 1 (pr N3 (.int 0))) (fn 6 (pr (fn 8 (pr bj (.int 12))) (.int 1))))) (fn 1 (pr (fn 1 (pr N3 (.int 0))) (fn 6 (pr (fn 8 (pr bj (.int 12))) (.int 2))))) (fn 1 (pr (fn 1 (pr N3 (.int 0))) (fn 6 (pr (fn 8 (pr bj (.int 12))) (.int 3))))) (fn 1 (pr (fn 1 (pr N3 (.int 0))) (fn 6 (pr (fn 8 (pr bj (.int 12))) (.int 4))))) (fn 1 (pr (fn 1 (pr N3 (.int 0))) (fn 6 (pr (fn 8 (pr bj (.int 12))) (.int 5))))) (fn 1 (pr (fn 1 (pr N3 (.int 0))) (fn 6 (pr (fn 8 (pr bj (.int 12))) (.int 6))))) (fn 1 (pr (fn 1 (pr N3 (.int 0))) (fn 6 (pr (fn 8 (pr bj (.int 12))) (.int 7))))) (fn 1 (pr (fn 1 (pr N3 (.int 0))) (fn 6 (pr (fn 8 (pr bj (.int 12))) (.int 8)))))
 simp only[aa]at *;grind
def ajU:=fb [(.not nH),Ib,So,(cmp .eql (var 25) (fn 6 (pr (fn 134 (pr N3 (.int 8))) (fn 135 (pr N3 (fn 9 (pr (fn 1 (pr N3 (.int 29))) (.int 5)))))))),(.not (cmp .lss (fn 9 (pr (fn 1 (pr N3 (.int 0))) (.int 12))) bj))] (.iff (cmp .eql (var 25) (fn 9 (pr (fn 1 (pr N3 (.int 0))) (.int 12)))) (fn 125 N3))<|bl fun ρ p0 p1 p2 p3 p4=>by
 have:=@aJu ρ _ _ (var 25) p2 p1
 simp only[aa]at *;grind
def ajV:=fb (ig::(.not tJ)::Ss) Su<|bl fun ρ p0 p1 p2 p3 p4=>by
 have:=ao p2
 have:=@bY ρ bF (.int 1)
 have:=@Gs ρ (.ar .add .i64 bF (.int 1)) _ _ p3 _ _ _ _ (fn 1 (pr _ (fn 6 (pr (fn 8 (pr (.int 0) _)) _)))) rfl rfl rfl rfl
 simp only[aa]at *;grind
def ajW:=fb Sr (.not (cmp .lss (fn 6 (pr (.int 320) (.ar .add .i64 bF (.int 1)))) (.ar .add .i64 fA (.int 1))))<|cz fun ρ p0 p1 p2 p3 p4 p5=>by
 have:=ao p1
 simp only[aa,ae]at *
 obtain⟨a,b,c⟩:=ab (E.I ρ bF+1)
 obtain⟨d,f,g⟩:=ab (E.I ρ fA+1)
 omega
def ajX:=fb A5 (cmp .lss (.ar .sub .i64 bj (.int 1)) (fn 9 (pr (fn 1 (pr N3 (.int 0))) (.int 12))))<|au fun ρ p0 p1=>by
 simp only[aa,ae]at *
 obtain⟨a,b,c⟩:=ab ((E.I ρ bj)-(1))
 omega
def ajY:=fb [ph,nJ] (.not (cmp .lss (.int 1) (fn 1 (pr (fn 1 (pr N3 (.int 0))) (fn 6 (pr (fn 8 (pr bj (.int 12))) (.int 2)))))))<|au fun ρ p0 p1=>by
 have:=@cW ρ (fn 1 (pr (fn 1 (pr N3 (.int 0))) (fn 6 (pr (fn 8 (pr bj (.int 12))) (.int 0))))) (fn 1 (pr (fn 1 (pr N3 (.int 0))) (fn 6 (pr (fn 8 (pr bj (.int 12))) (.int 1))))) (fn 1 (pr (fn 1 (pr N3 (.int 0))) (fn 6 (pr (fn 8 (pr bj (.int 12))) (.int 2))))) (fn 1 (pr (fn 1 (pr N3 (.int 0))) (fn 6 (pr (fn 8 (pr bj (.int 12))) (.int 3))))) (fn 1 (pr (fn 1 (pr N3 (.int 0))) (fn 6 (pr (fn 8 (pr bj (.int 12))) (.int 4))))) (fn 1 (pr (fn 1 (pr N3 (.int 0))) (fn 6 (pr (fn 8 (pr bj (.int 12))) (.int 5))))) (fn 1 (pr (fn 1 (pr N3 (.int 0))) (fn 6 (pr (fn 8 (pr bj (.int 12))) (.int 6))))) (fn 1 (pr (fn 1 (pr N3 (.int 0))) (fn 6 (pr (fn 8 (pr bj (.int 12))) (.int 7))))) (fn 1 (pr (fn 1 (pr N3 (.int 0))) (fn 6 (pr (fn 8 (pr bj (.int 12))) (.int 8)))))
 simp only[aa]at *;grind
def ajZ:=fb (ig::tJ::H6::(.not Sl)::Sj::Ss) Su<|dO fun ρ p0 p1 p2 p3 p4 p5 p6 p7=>by
 have:=ao p5
 have:=@bY ρ bF (.int 1)
 have:=@Gs ρ (.ar .add .i64 bF (.int 1)) _ _ p6 _ _ _ _ (fn 1 (pr _ (fn 6 (pr (fn 8 (pr tK _)) _)))) rfl rfl rfl rfl
 simp only[aa]at *;grind
def aj0:=fb (nH::ph::nJ::Ic::A6::(.not A7)::Sy) tL<|dO fun ρ p0 p1 p2 p3 p4 p5 p6 p7=>by
 have:=@wl ρ _ (fn 6 (pr bj (.int 1))) _ p6 (.ar .sub .i64 bj (.int 1)) _ _ _ _ _ _ _ _ _ rfl rfl rfl rfl rfl rfl rfl rfl rfl
 simp only[aa]at *;grind
def aj1:=fb Ie Sz<|au fun ρ p0 p1=>by
 simp only[aa,ae]at *
 obtain⟨a,b,c⟩:=ab (E.I ρ bj+1)
 omega
def aj2:=fb (nH::ph::nJ::w3::If::A6::(.not A7)::A8) tL<|jh fun ρ p0 p1 p2 p3 p4 p5 p6 p7 p8 p9=>by
 have:=ao p9
 have:=@ma ρ bj (.int 1)
 have:=@wl ρ _ (fn 6 (pr bj (.int 1))) _ p7 (.ar .sub .i64 bj (.int 1)) _ _ _ _ _ _ _ _ _ rfl rfl rfl rfl rfl rfl rfl rfl rfl
 simp only[aa]at *;grind
def aj3:=fb Ia Sz<|ay fun ρ p0 p1 p2=>by
 have:=ao p0
 simp only[aa,ae]at *
 obtain⟨a,b,c⟩:=ab (E.I ρ bj+1)
 omega
def aj4:=fb (nH::ph::nJ::w3::(.not If)::A8) tL<|dO fun ρ p0 p1 p2 p3 p4 p5 p6 p7=>by
 have:=ao p7
 have:=@ma ρ bj (.int 1)
 have:=@wl ρ _ (fn 6 (pr bj (.int 1))) _ p5 (.ar .sub .i64 bj (.int 1)) _ _ _ _ _ _ _ _ _ rfl rfl rfl rfl rfl rfl rfl rfl rfl
 simp only[aa]at *;grind
def aj5:=fb (nH::ph::(.not nJ)::A8) tL<|cz fun ρ p0 p1 p2 p3 p4 p5=>by
 have:=ao p5
 have:=@ma ρ bj (.int 1)
 have:=@wl ρ _ (fn 6 (pr bj (.int 1))) _ p3 (.ar .sub .i64 bj (.int 1)) _ _ _ _ _ _ _ _ _ rfl rfl rfl rfl rfl rfl rfl rfl rfl
 simp only[aa]at *;grind
def aj6:=fb SB SC<|ay fun ρ p0 p1 p2=>by
 simp only[aa,ae]at *
 obtain⟨a,b,c⟩:=ab (E.I ρ bj+1)
 omega
def aj7:=fb A5 SC<|au fun ρ p0 p1=>by
 simp only[aa,ae]at *
 obtain⟨a,b,c⟩:=ab (E.I ρ bj+1)
 omega
def aj8:=fb (nH::ph::nJ::Ic::A6::A7::Sy) SD<|dO fun ρ p0 p1 p2 p3 p4 p5 p6 p7=>by
 have:=@bY ρ bj (.int 1)
 have:=@wl ρ _ (.ar .add .i64 bj (.int 1)) _ p6 (.ar .sub .i64 bj (.int 1)) _ _ _ _ _ _ _ _ _ rfl rfl rfl rfl rfl rfl rfl rfl rfl
 simp only[aa]at *;grind
def aj9:=fb (nH::ph::nJ::w3::If::A6::A7::A8) SD<|jh fun ρ p0 p1 p2 p3 p4 p5 p6 p7 p8 p9=>by
 have:=ao p9
 have:=@ma ρ bj (.int 1)
 have:=@bY ρ bj (.int 1)
 have:=@wl ρ _ (.ar .add .i64 bj (.int 1)) _ p7 (.ar .sub .i64 bj (.int 1)) _ _ _ _ _ _ _ _ _ rfl rfl rfl rfl rfl rfl rfl rfl rfl
 simp only[aa]at *;grind
def aka:=fb Ie SE<|au fun ρ p0 p1=>by
 simp only[aa,ae]at *
 obtain⟨a,b,c⟩:=ab (E.I ρ bj+1)
 omega
def akb:=fb Ia SE<|ay fun ρ p0 p1 p2=>by
 have:=ao p0
 simp only[aa,ae]at *
 obtain⟨a,b,c⟩:=ab (E.I ρ bj+1)
 omega
def akc:=fb SB SG<|ay fun ρ p0 p1 p2=>by
 simp only[aa,ae]at *
 obtain⟨a,b,c⟩:=ab (E.I ρ bj+1)
 omega
def akd:=fb A5 SG<|au fun ρ p0 p1=>by
 simp only[aa,ae]at *
 obtain⟨a,b,c⟩:=ab (E.I ρ bj+1)
 omega
def dH:List Fa:=[ny,AJ,ajF,ajG,ajH,ajI,Px,ajJ,ajK,ajL,Py,ajM,ajN,ajO,ajP,ajQ,ajR,ajS,ajT,ajU,ajV,ajW,ajX,ajY,Pz,ajZ,PA,aj0,aj1,aj2,aj3,aj4,aj5,aj6,aj7,aj8,aj9,aka,akb,akc,akd]
theorem aHb:aV Tryz.prog (bz (aGq)):=sc dH (aA8) acj ([]) (by kernel_rfl) (by kernel_rfl)
def ack:Nl:=nc aHb acj
end
end Go.Proofs.YtnggbcblogpnfaaGreat.combatDamages
