/-
  CombatAttacks: contracts of functions, part 5.
-/
import Derived.Test.YtnggbcblogpnfaaGreatCombatAttacksPartd
namespace Go.Proofs.YtnggbcblogpnfaaGreat.combatAttacks
open Go.ChangeShapes Go.WideShapes Go.ChangeAt Go.RowKit
open Go.SX
open Go.SX.E (fn pr cmp var)
set_option linter.unusedVariables false
set_option linter.unusedSimpArgs false
set_option maxRecDepth 100000
noncomputable section
abbrev Z0:E:=var 0
abbrev Z1:E:=var 4
abbrev Z2:E:=cmp .lss Z1 (fn 9 (pr Z0 (.int 2)))
abbrev Z3:E:=cmp .lss (fn 1 (pr Z0 (fn 6 (pr (fn 8 (pr Z1 (.int 2))) (.int 0))))) (.int 0)
abbrev Z4:E:=cmp .lss Z1 (.int 0)
abbrev Z5:E:=.not Z4
abbrev Z6:=[Z5]
abbrev Z7:E:=pr Z0 (fn 9 (pr Z0 (.int 2)))
abbrev Z8:E:=fn 101 Z7
abbrev Z9:E:=.not Z8
abbrev wC:E:=.iff Z5 Z9
abbrev sN:E:=.not Z3
abbrev XQ:E:=cmp .lss (fn 1 (pr Z0 (fn 6 (pr (fn 8 (pr Z1 (.int 2))) (.int 1))))) (.int 0)
abbrev BL:E:=.not XQ
abbrev BQ:E:=cmp .lss (.int 1) (fn 1 (pr Z0 (fn 6 (pr (fn 8 (pr Z1 (.int 2))) (.int 1)))))
abbrev JC:E:=cmp .eql (fn 1 (pr Z0 (fn 6 (pr (fn 8 (pr Z1 (.int 2))) (.int 0))))) (.int 0)
abbrev X6:E:=cmp .eql (fn 1 (pr Z0 (fn 6 (pr (fn 8 (pr Z1 (.int 2))) (.int 1))))) (.int 0)
abbrev Z17:E:=cmp .lss (.int 1000) (fn 9 (pr Z0 (.int 2)))
abbrev Z18:E:=.not Z17
abbrev Z19:=[Z18]
abbrev Yf:=Z5::Z19
abbrev Yk:=Z2::Yf
abbrev Z22:E:=cmp .lss (.ar .add .i64 Z1 (.int 1)) (.int 0)
abbrev JH:E:=.not Z22
abbrev Yv:E:=cmp .lss (.int 500) (fn 1 (pr Z0 (fn 6 (pr (fn 8 (pr Z1 (.int 2))) (.int 0)))))
abbrev Yy:E:=fn 101 (pr Z0 Z1)
abbrev iF:E:=.bool false
abbrev Z27:=Yy::Yf
abbrev YJ:List E:=(.not Yv)::Z27
abbrev Z29:E:=pr Z0 (.ar .add .i64 Z1 (.int 1))
abbrev YK:E:=fn 101 Z29
abbrev YL:E:=cmp .lss Z0 (.int 0)
abbrev bI:E:=var 1
abbrev ch:E:=var 2
abbrev ce:E:=var 3
abbrev bN:E:=var 5
abbrev Z36:E:=pr ce (pr Z1 bN)
abbrev Z37:E:=pr ch Z36
abbrev Z38:E:=pr bI Z37
abbrev Z39:E:=pr Z0 Z38
abbrev YM:E:=fn 102 Z39
abbrev jX:E:=.iff iF YM
abbrev iG:E:=.not YL
abbrev YN:E:=cmp .lss (.int 1) Z0
abbrev jg:E:=.not YN
abbrev YO:E:=cmp .lss bI (.int 1)
abbrev jY:E:=.not YO
abbrev YP:E:=cmp .lss ch (.int 0)
abbrev mC:E:=.not YP
abbrev YQ:E:=cmp .lss ce (.int (-1))
abbrev qo:E:=.not YQ
abbrev YR:E:=cmp .lss (.int 1) ce
abbrev sT:E:=.not YR
abbrev YS:E:=cmp .lss (.int 4) (fn 9 (pr Z1 (.int 2)))
abbrev wI:E:=.not YS
abbrev B3:E:=cmp .lss ce (.int 0)
abbrev fE:E:=.not B3
abbrev JM:E:=cmp .lss (.int 0) (fn 9 (pr Z1 (.int 2)))
abbrev dO:E:=var 6
abbrev JN:E:=cmp .lss dO (.int 0)
abbrev kX:E:=.not JN
abbrev Z61:E:=pr Z1 (fn 9 (pr Z1 (.int 2)))
abbrev Z62:E:=fn 101 Z61
abbrev Z63:E:=.not Z62
abbrev Z64:E:=.iff kX Z63
abbrev YT:E:=cmp .lss (.int 500) bI
abbrev Z66:E:=.not YT
abbrev YU:E:=cmp .lss (.int 399) ch
abbrev Z68:E:=.not YU
abbrev Z69:=[Z68]
abbrev YV:=Z66::Z69
abbrev JO:=Z64::YV
abbrev JP:E:=.iff JN YM
abbrev mD:E:=cmp .lss Z1 (fn 9 (pr Z0 (.int 5)))
abbrev Z74:E:=pr (fn 1 (pr Z0 (fn 6 (pr (fn 8 (pr Z1 (.int 5))) (.int 4))))) iF
abbrev Z75:E:=pr (fn 1 (pr Z0 (fn 6 (pr (fn 8 (pr Z1 (.int 5))) (.int 3))))) Z74
abbrev Z76:E:=pr (fn 1 (pr Z0 (fn 6 (pr (fn 8 (pr Z1 (.int 5))) (.int 2))))) Z75
abbrev Z77:E:=pr (fn 1 (pr Z0 (fn 6 (pr (fn 8 (pr Z1 (.int 5))) (.int 1))))) Z76
abbrev Z78:E:=pr (fn 1 (pr Z0 (fn 6 (pr (fn 8 (pr Z1 (.int 5))) (.int 0))))) Z77
abbrev Z79:E:=fn 102 Z78
abbrev YW:E:=.iff bN Z79
abbrev Z81:E:=pr iF (fn 9 (pr Z0 (.int 5)))
abbrev Z82:E:=pr Z0 Z81
abbrev Z83:E:=fn 103 Z82
abbrev YX:E:=.not Z83
abbrev Z85:E:=cmp .lss (.int 1000) (fn 9 (pr Z0 (.int 5)))
abbrev Z86:E:=.not Z85
abbrev Z87:=[Z86]
abbrev JQ:=Z5::Z87
abbrev YY:=mD::JQ
abbrev Z90:E:=pr Z0 (pr iF Z1)
abbrev YZ:E:=fn 103 Z90
abbrev oB:E:=.bool true
abbrev Z93:E:=pr (fn 1 (pr Z0 (fn 6 (pr (fn 8 (pr Z1 (.int 5))) (.int 4))))) oB
abbrev Z94:E:=pr (fn 1 (pr Z0 (fn 6 (pr (fn 8 (pr Z1 (.int 5))) (.int 3))))) Z93
abbrev Z95:E:=pr (fn 1 (pr Z0 (fn 6 (pr (fn 8 (pr Z1 (.int 5))) (.int 2))))) Z94
abbrev Z96:E:=pr (fn 1 (pr Z0 (fn 6 (pr (fn 8 (pr Z1 (.int 5))) (.int 1))))) Z95
abbrev Z97:E:=pr (fn 1 (pr Z0 (fn 6 (pr (fn 8 (pr Z1 (.int 5))) (.int 0))))) Z96
abbrev Z98:E:=fn 102 Z97
abbrev Y0:E:=.iff bN Z98
abbrev aBL:E:=pr oB (fn 9 (pr Z0 (.int 5)))
abbrev aBM:E:=pr Z0 aBL
abbrev aBN:E:=fn 103 aBM
abbrev XI:E:=.not aBN
abbrev aBO:E:=pr Z0 (pr oB Z1)
abbrev XJ:E:=fn 103 aBO
abbrev sM:E:=cmp .lss Z1 (fn 0 Z0)
abbrev XK:E:=cmp .eql bI (fn 1 (pr Z0 Z1))
abbrev XL:E:=fn 114 (pr Z0 bI)
abbrev aBP:E:=cmp .lss (.int 1000) (fn 0 Z0)
abbrev aBQ:E:=.not aBP
abbrev aBR:=[aBQ]
abbrev XM:=Z5::aBR
abbrev XN:=sM::XM
abbrev XO:E:=cmp .eql (fn 131 (pr Z0 (pr bI Z1))) (.int 0)
abbrev XP:E:=cmp .lss (.int 99) ce
abbrev dM:E:=var 7
abbrev bi:E:=var 8
abbrev BJ:E:=fn 137 (pr Z0 (pr bI (pr ch (pr ce (pr Z1 (pr bN (pr dO (pr dM bi))))))))
abbrev fD:E:=.iff iF BJ
abbrev XR:E:=cmp .lss (.int 99) Z1
abbrev XS:E:=cmp .lss bN (.int 0)
abbrev jU:E:=.not XS
abbrev XT:E:=cmp .lss (.int 99) bN
abbrev XU:E:=cmp .lss (.int 99) dO
abbrev XV:E:=cmp .lss dM (.int 0)
abbrev qj:E:=.not XV
abbrev XW:E:=cmp .lss (.int 99) dM
abbrev XX:E:=cmp .lss bi (.int 0)
abbrev wD:E:=.not XX
abbrev XY:E:=cmp .lss (.int 99) bi
abbrev Jz:E:=cmp .eql bI (.int (-1))
abbrev BM:E:=.not Jz
abbrev BN:E:=cmp .eql ce (.int 0)
abbrev JA:E:=cmp .eql Z1 (.int 0)
abbrev XZ:E:=cmp .lss Z0 (.int 1)
abbrev qk:E:=.not XZ
abbrev BO:E:=cmp .lss bI (.int (-1))
abbrev JB:E:=cmp .lss bI (.int 400)
abbrev BP:E:=cmp .eql ch (.int 0)
abbrev X0:E:=.not XP
abbrev aBS:E:=.not XT
abbrev aBT:E:=.not XU
abbrev aBU:E:=.not XW
abbrev aBV:E:=.not XY
abbrev X1:E:=cmp .lss (.int 500) Z0
abbrev aBW:E:=.not X1
abbrev aBX:=[aBW]
abbrev aBY:=aBV::aBX
abbrev aBZ:=aBU::aBY
abbrev aB0:=aBT::aBZ
abbrev X2:=aBS::aB0
abbrev X3:=X0::X2
abbrev aB1:E:=cmp .eql ch (.int 1)
abbrev X4:E:=.iff aB1 BJ
abbrev aB2:List E:=(.not XR)::X2
abbrev X5:=X0::aB2
abbrev JD:E:=pr (.int 0) (.int 0)
abbrev gF:E:=fn 117 Z0
abbrev g9:=[gF]
abbrev mz:E:=cmp .eql bi (.int 0)
abbrev aB3:E:=cmp .lss (.ar .add .i64 bi (.int 1)) (.int 0)
abbrev X7:E:=.not aB3
abbrev jV:E:=cmp .eql bi (.int 1)
abbrev cF:E:=var 16
abbrev BR:E:=cmp .eql cF (.int 0)
abbrev mA:E:=pr Z0 (pr bi cF)
abbrev BS:E:=cmp .eql cF (.int 1)
abbrev BT:E:=cmp .eql cF (.int 2)
abbrev BU:E:=cmp .lss cF (.int 4)
abbrev aB4:E:=cmp .lss cF (.int 0)
abbrev X8:E:=.not aB4
abbrev aB5:=[X8,mz]
abbrev X9:=BU::aB5
abbrev aB6:E:=cmp .lss (.int 2) (.ar .add .i64 bi (.int 1))
abbrev Ya:E:=.not aB6
abbrev ql:=[BU,X8]
abbrev dN:E:=var 24
abbrev iE:E:=var 28
abbrev qm:E:=cmp .lss dN (fn 0 iE)
abbrev sO:E:=var 25
abbrev wE:E:=fn 104 (pr sO (pr Z0 (pr bi (pr cF dN))))
abbrev wF:E:=fn 109 (pr iE mA)
abbrev aB7:E:=cmp .lss dN (.int 0)
abbrev JE:E:=.not aB7
abbrev Yb:=JE::X9
abbrev jW:E:=.iff iF (fn 108 Z0)
abbrev aB8:E:=cmp .lss (.int 40) (fn 0 iE)
abbrev JF:E:=.not aB8
abbrev Yc:=[JE]
abbrev aB9:=JF::Yc
abbrev Yd:=qm::aB9
abbrev Ye:=JE::ql
abbrev aCa:E:=pr bi (pr cF (.int 0))
abbrev aCb:E:=pr Z0 aCa
abbrev aCc:E:=pr (var 17) aCb
abbrev aCd:E:=fn 104 aCc
abbrev aCe:E:=cmp .lss (.int 4) cF
abbrev aCf:E:=.not aCe
abbrev aCg:=[aCf]
abbrev Yg:=aCd::aCg
abbrev aCh:E:=pr (.ar .add .i64 bi (.int 1)) JD
abbrev aCi:E:=pr Z0 aCh
abbrev aCj:E:=pr (var 17) aCi
abbrev Yh:E:=fn 104 aCj
abbrev Yi:=qm::Yc
abbrev Yj:E:=cmp .lss (fn 7 (pr (.int 2) (.ar .add .i64 bi (.int 1)))) (fn 7 (pr (.int 2) bi))
abbrev cT:E:=var 32
abbrev sP:E:=cmp .lss cT (fn 9 (pr (fn 1 (pr Z0 (.int 29))) (.int 5)))
abbrev JG:E:=cmp .lss (fn 1 (pr (fn 1 (pr Z0 (.int 29))) (fn 6 (pr (fn 8 (pr cT (.int 5))) (.int 3))))) (.int 0)
abbrev sQ:E:=var 33
abbrev BV:E:=var 34
abbrev Yl:E:=pr Z0 cT
abbrev aCk:E:=pr BV Yl
abbrev Ym:E:=fn 106 aCk
abbrev aCl:E:=pr sQ Yl
abbrev Yn:E:=fn 105 aCl
abbrev aCm:E:=cmp .lss cT (.int 0)
abbrev aCn:E:=.not aCm
abbrev Yo:=[aCn]
abbrev aCo:=Yn::Yo
abbrev Yp:=Ym::aCo
abbrev aCp:=sP::Yo
abbrev BW:=gF::aCp
abbrev Yq:E:=.not (fn 33 (pr sO (fn 1 (pr iE dN))))
abbrev aCq:E:=pr cF (.ar .add .i64 dN (.int 1))
abbrev aCr:E:=pr bi aCq
abbrev aCs:E:=pr Z0 aCr
abbrev aCt:E:=pr (fn 34 (pr sO (pr (fn 1 (pr iE dN)) bi))) aCs
abbrev Yr:E:=fn 104 aCt
abbrev aCu:E:=cmp .lss (fn 7 (pr (.int 2) (.ar .add .i64 bi (.int 1)))) (.int 0)
abbrev Ys:E:=.not aCu
abbrev aCv:E:=cmp .lss (fn 9 (pr (fn 1 (pr Z0 (.int 29))) (.int 5))) cT
abbrev aCw:E:=.not aCv
abbrev Yt:=[aCw]
abbrev BX:E:=pr Z0 (fn 9 (pr (fn 1 (pr Z0 (.int 29))) (.int 5)))
abbrev aCx:E:=.not (fn 33 (pr sQ (fn 1 (pr (fn 1 (pr Z0 (.int 29))) (fn 6 (pr (fn 8 (pr cT (.int 5))) (.int 1)))))))
abbrev Yu:=gF::Yp
abbrev aCy:=aCx::Yu
abbrev aCz:=JG::aCy
abbrev Yw:=sP::aCz
abbrev BY:E:=pr Z0 (.ar .add .i64 cT (.int 1))
abbrev aCA:List E:=(.not JG)::Yu
abbrev Yx:=sP::aCA
abbrev aT:E:=var 40
abbrev gG:E:=cmp .lss aT (fn 9 (pr (fn 1 (pr Z0 (.int 0))) (.int 12)))
abbrev oz:E:=cmp .lss (.int 0) aT
abbrev BZ:=[gG,oz]
abbrev JI:=gF::BZ
abbrev JJ:E:=fn 107 (pr Z0 aT)
abbrev kW:E:=var 41
abbrev JK:E:=fn 105 (pr kW BX)
abbrev sR:E:=.not oz
abbrev aCB:E:=cmp .lss aT (.int 0)
abbrev Yz:E:=.not aCB
abbrev YA:=[Yz]
abbrev JL:=sR::YA
abbrev aCC:E:=cmp .lss (.ar .add .i64 aT (.int 1)) (.int 0)
abbrev YB:E:=.not aCC
abbrev mB:E:=var 43
abbrev oA:E:=.iff mB (fn 137 (pr (fn 1 (pr (fn 1 (pr Z0 (.int 0))) (fn 6 (pr (fn 8 (pr aT (.int 12))) (.int 0))))) (pr (fn 1 (pr (fn 1 (pr Z0 (.int 0))) (fn 6 (pr (fn 8 (pr aT (.int 12))) (.int 1))))) (pr (fn 1 (pr (fn 1 (pr Z0 (.int 0))) (fn 6 (pr (fn 8 (pr aT (.int 12))) (.int 2))))) (pr (fn 1 (pr (fn 1 (pr Z0 (.int 0))) (fn 6 (pr (fn 8 (pr aT (.int 12))) (.int 3))))) (pr (fn 1 (pr (fn 1 (pr Z0 (.int 0))) (fn 6 (pr (fn 8 (pr aT (.int 12))) (.int 4))))) (pr (fn 1 (pr (fn 1 (pr Z0 (.int 0))) (fn 6 (pr (fn 8 (pr aT (.int 12))) (.int 5))))) (pr (fn 1 (pr (fn 1 (pr Z0 (.int 0))) (fn 6 (pr (fn 8 (pr aT (.int 12))) (.int 6))))) (pr (fn 1 (pr (fn 1 (pr Z0 (.int 0))) (fn 6 (pr (fn 8 (pr aT (.int 12))) (.int 7))))) (fn 1 (pr (fn 1 (pr Z0 (.int 0))) (fn 6 (pr (fn 8 (pr aT (.int 12))) (.int 8))))))))))))))
abbrev wG:E:=var 42
abbrev B0:E:=cmp .eql (fn 32 (pr wG (pr (fn 1 (pr (fn 1 (pr Z0 (.int 0))) (fn 6 (pr (fn 8 (pr aT (.int 12))) (.int 0))))) (.int 0)))) (fn 1 (pr (fn 1 (pr Z0 (.int 0))) (fn 6 (pr (fn 8 (pr aT (.int 12))) (.int 1)))))
abbrev YC:E:=fn 106 (pr wG BX)
abbrev wH:=JJ::YC::JK::YA
abbrev sS:E:=cmp .eql (fn 32 (pr kW (pr (fn 1 (pr (fn 1 (pr Z0 (.int 0))) (fn 6 (pr (fn 8 (pr aT (.int 12))) (.int 0))))) (.int 0)))) (fn 1 (pr (fn 1 (pr Z0 (.int 0))) (fn 6 (pr (fn 8 (pr aT (.int 12))) (.int 2)))))
abbrev YD:E:=.not (fn 33 (pr kW (fn 1 (pr (fn 1 (pr Z0 (.int 0))) (fn 6 (pr (fn 8 (pr aT (.int 12))) (.int 0)))))))
abbrev B1:E:=cmp .lss (fn 1 (pr (fn 1 (pr Z0 (.int 0))) (fn 6 (pr (fn 8 (pr (.ar .sub .i64 aT (.int 1)) (.int 12))) (.int 0))))) (fn 1 (pr (fn 1 (pr Z0 (.int 0))) (fn 6 (pr (fn 8 (pr aT (.int 12))) (.int 0)))))
abbrev qn:=JJ::YC::JK::Yz::g9
abbrev YE:=gG::JL
abbrev aCD:E:=cmp .lss (fn 9 (pr (fn 1 (pr Z0 (.int 0))) (.int 12))) (.ar .add .i64 aT (.int 1))
abbrev YF:E:=.not aCD
abbrev YG:E:=.not (fn 33 (pr wG (fn 1 (pr (fn 1 (pr Z0 (.int 0))) (fn 6 (pr (fn 8 (pr aT (.int 12))) (.int 0)))))))
abbrev B2:E:=fn 107 (pr Z0 (.ar .add .i64 aT (.int 1)))
abbrev YH:E:=cmp .lss (fn 7 (pr (fn 9 (pr (fn 1 (pr Z0 (.int 0))) (.int 12))) (.ar .add .i64 aT (.int 1)))) (fn 7 (pr (fn 9 (pr (fn 1 (pr Z0 (.int 0))) (.int 12))) aT))
abbrev aCE:E:=cmp .lss (fn 7 (pr (fn 9 (pr (fn 1 (pr Z0 (.int 0))) (.int 12))) (.ar .add .i64 aT (.int 1)))) (.int 0)
abbrev YI:E:=.not aCE
theorem aHp:lQ Tryz.prog (fun tb=>qz um (run Tryz.prog (tb.plus [] [] Es.l) 3000 (.call 10 []) .nil (rH 0 []) SX.one))=true:=by kernel_rfl
def acy:Nl:=nc (aEp good (facts:=[]) all_nil (anns:=[]) (lF [] rfl) (nats:=Es.l) Es.h aHp) Es

def G0:=fa ((fn 101 (pr Z0 (.int 0))))<|fun F=>by
 rfl
def G1:=fb (Z2::Z3::Z6) wC<|am fun F p0 p1 p2=>by
 have:=fun h0 h1=>@lM F _ _ (fn 9 (pr Z0 (.int 2))) h0 h1 (fn 1 _) (fn 1 (pr Z0 (fn 6 (pr (fn 8 (pr Z1 _)) _)))) rfl rfl
 simp only[aa]at *;grind
def G2:=fb (Z2::sN::XQ::Z6) wC<|aB fun F p0 p1 p2 p3=>by
 have:=fun h0 h1=>@lM F _ _ (fn 9 (pr Z0 (.int 2))) h0 h1 _ (fn 1 (pr Z0 (fn 6 (pr (fn 8 (pr Z1 _)) _)))) rfl rfl
 simp only[aa]at *;grind
def G3:=fb (Z2::sN::BL::(.not BQ)::(.not JC)::(.not X6)::Z6) wC<|cV fun F p0 p1 p2 p3 p4 p5 p6=>by
 have:=fun h0 h1=>@lM F _ _ (fn 9 (pr Z0 (.int 2))) h0 h1 (fn 1 _) (fn 1 (pr Z0 (fn 6 (pr (fn 8 (pr Z1 _)) _)))) rfl rfl
 simp only[aa]at *;grind
def G4:=fb Yk JH<|am fun F p0 p1 p2=>by
 simp only[aa,ae]at *
 obtain⟨a,b,c⟩:=ab (E.I F Z1+1)
 omega
def G5:=fb (Z2::sN::BL::BQ::Z6) wC<|aK fun F p0 p1 p2 p3 p4=>by
 have:=fun h0 h1=>@lM F _ _ (fn 9 (pr Z0 (.int 2))) h0 h1 _ (fn 1 (pr Z0 (fn 6 (pr (fn 8 (pr Z1 _)) _)))) rfl rfl
 simp only[aa]at *;grind
def G6:=fb (Z2::sN::Yv::Z6) wC<|aB fun F p0 p1 p2 p3=>by
 have:=fun h0 h1=>@lM F _ _ (fn 9 (pr Z0 (.int 2))) h0 h1 (fn 1 _) (fn 1 (pr Z0 (fn 6 (pr (fn 8 (pr Z1 _)) _)))) rfl rfl
 simp only[aa]at *;grind
def G7:=fb [(.not Z2),Yy] (.iff iF Z9)<|ap fun F p0 p1=>by
 have:=fun h1=>@afB F _ _ (fn 9 (pr Z0 (.int 2))) p1 h1
 simp only[aa]at *;grind
def G8:=fb (Z2::Z6) (.not (cmp .lss (fn 9 (pr Z0 (.int 2))) (.ar .add .i64 Z1 (.int 1))))<|ap fun F p0 p1=>by
 simp only[aa,ae]at *
 obtain⟨a,b,c⟩:=ab (E.I F Z1+1)
 omega
def G9:=fb (Z2::sN::BL::(.not BQ)::(.not JC)::X6::YJ) YK<|eR fun F p0 p1 p2 p3 p4 p5 p6 p7 p8 p9=>by
 have:=@bH F Z1 (.int 1)
 have:=fun h0 hm=>@FL F _ (.ar .add .i64 Z1 (.int 1)) _ p7 h0 hm (fn 1 _) (fn 1 _) rfl rfl
 simp only[aa]at *;grind
def G10:=fb (Z2::sN::BL::(.not BQ)::JC::YJ) YK<|di fun F p0 p1 p2 p3 p4 p5 p6 p7 p8=>by
 have:=@bH F Z1 (.int 1)
 have:=fun h0 hm=>@FL F _ (.ar .add .i64 Z1 (.int 1)) _ p6 h0 hm (fn 1 _) (fn 1 _) rfl rfl
 simp only[aa]at *;grind
def G11:=fb Yk (cmp .lss (fn 7 (pr (fn 9 (pr Z0 (.int 2))) (.ar .add .i64 Z1 (.int 1)))) (fn 7 (pr (fn 9 (pr Z0 (.int 2))) Z1)))<|am fun F p0 p1 p2=>by
 simp only[aa,ae]at *
 obtain⟨a,b,c⟩:=ab (E.I F Z1+1)
 omega
def G12:=fb (Z2::Z6) (.not (cmp .lss (fn 7 (pr (fn 9 (pr Z0 (.int 2))) (.ar .add .i64 Z1 (.int 1)))) (.int 0)))<|ap fun F p0 p1=>by
 simp only[aa,ae]at *
 obtain⟨a,b,c⟩:=ab (E.I F Z1+1)
 omega
def ao:List Fa:=[G0,G1,G2,G3,G4,G5,G6,G7,G8,G9,G10,G11,G12]
theorem aIJ:aR Tryz.prog (bj (aID)):=sc ao (aDs) acy ([]) (by kernel_rfl) (by kernel_rfl)
def acz:Nl:=nc aIJ acy
def Pm:=fb [YL] jX<|ah fun F p0=>by
 have:=(@dk F ce bI Z0 bN ch Z1)
 simp only[aa]at *;grind
def G14:=fb [iG,jg,YO] jX<|am fun F p0 p1 p2=>by
 have:=(@dk F ce bI Z0 bN ch Z1)
 simp only[aa]at *;grind
def G15:=fb [iG,jg,jY,YP] jX<|aB fun F p0 p1 p2 p3=>by
 have:=(@dk F ce bI Z0 bN ch Z1)
 simp only[aa]at *;grind
def G16:=fb [iG,jg,jY,mC,YQ] jX<|aK fun F p0 p1 p2 p3 p4=>by
 have:=(@dk F ce bI Z0 bN ch Z1)
 simp only[aa]at *;grind
def G17:=fb (iG::jg::jY::mC::qo::sT::wI::fE::(.not JM)::bN::JO) JP<|jr fun F p0 p1 p2 p3 p4 p5 p6 p7 p8 p9 ai ao aq=>by
 have:=ug F (pr Z1 (.int 2))
 have:=(@dk F ce bI Z0 bN ch Z1)
 simp only[aa]at *;grind
def G18:=fb (iG::jg::jY::mC::qo::sT::wI::fE::(.not JM)::JO) JP<|jq fun F p0 p1 p2 p3 p4 p5 p6 p7 p8 p9 ai ao=>by
 have:=ug F (pr Z1 (.int 2))
 have:=(@dk F ce bI Z0 bN ch Z1)
 simp only[aa]at *;grind
def G19:=fb (iG::jg::jY::mC::qo::sT::wI::fE::JM::YV) jX<|eS fun F p0 p1 p2 p3 p4 p5 p6 p7 p8 p9 ai=>by
 have:=(@dk F ce bI Z0 bN ch Z1)
 simp only[aa]at *;grind
def G20:=fb [iG,jg,jY,mC,qo,sT,wI,B3,bN] jX<|di fun F p0 p1 p2 p3 p4 p5 p6 p7 p8=>by
 have:=(@dk F ce bI Z0 bN ch Z1)
 simp only[aa]at *;grind
def G21:=fb (iG::jg::jY::mC::qo::sT::wI::B3::(.not bN)::JO) JP<|jq fun F p0 p1 p2 p3 p4 p5 p6 p7 p8 p9 ai ao=>by
 have:=(@dk F ce bI Z0 bN ch Z1)
 simp only[aa]at *;grind
def G22:=fb [iG,jg,jY,mC,qo,sT,YS] jX<|cV fun F p0 p1 p2 p3 p4 p5 p6=>by
 have:=(@dk F ce bI Z0 bN ch Z1)
 simp only[aa]at *;grind
def G23:=fb [iG,jg,jY,mC,qo,YR] jX<|bL fun F p0 p1 p2 p3 p4 p5=>by
 have:=(@dk F ce bI Z0 bN ch Z1)
 simp only[aa]at *;grind
def G24:=fb [iG,jg,jY,mC,YU] jX<|aK fun F p0 p1 p2 p3 p4=>by
 have:=(@dk F ce bI Z0 bN ch Z1)
 simp only[aa]at *;grind
def G25:=fb [iG,jg,jY,YT] jX<|aB fun F p0 p1 p2 p3=>by
 have:=(@dk F ce bI Z0 bN ch Z1)
 simp only[aa]at *;grind
def G26:=fb [iG,YN] jX<|ap fun F p0 p1=>by
 have:=(@dk F ce bI Z0 bN ch Z1)
 simp only[aa]at *;grind
def aq:List Fa:=[Pm,G14,G15,G16,G17,G18,G19,G20,G21,G22,G23,G24,G25,G26]
theorem aIK:aR Tryz.prog (bj (aIf)):=sc aq ([]) acz ([]) (by kernel_rfl) (by kernel_rfl)
def acA:Nl:=nc aIK acz
def G27:=fa ((fn 103 (pr Z0 (pr iF (.int 0)))))<|fun F=>by
 rfl
def G28:=fb (mD::YW::(.not bN)::Z6) (.iff Z5 YX)<|aB fun F p0 p1 p2 p3=>by
 have:=fun h0 h1=>@FO F _ _ (fn 9 (pr Z0 (.int 5))) _ h0 h1 (fn _ (pr (fn 1 _) (pr (fn 1 _) (pr (fn 1 _) (pr (fn 1 _) (pr (fn 1 (pr Z0 (fn 6 (pr (fn 8 (pr Z1 _)) _)))) iF)))))) rfl
 simp only[aa]at *;grind
def Px:=fb YY JH<|am fun F p0 p1 p2=>by
 simp only[aa,ae]at *
 obtain⟨a,b,c⟩:=ab (E.I F Z1+1)
 omega
def G30:=fb [(.not mD),YZ] (.iff iF YX)<|ap fun F p0 p1=>by
 have:=fun h1=>@FN F _ _ (fn 9 (pr Z0 (.int 5))) _ p1 h1
 simp only[aa]at *;grind
def PC:=fb (mD::Z6) (.not (cmp .lss (fn 9 (pr Z0 (.int 5))) (.ar .add .i64 Z1 (.int 1))))<|ap fun F p0 p1=>by
 simp only[aa,ae]at *
 obtain⟨a,b,c⟩:=ab (E.I F Z1+1)
 omega
def G32:=fb (mD::YW::bN::YZ::JQ) (fn 103 (pr Z0 (pr iF (.ar .add .i64 Z1 (.int 1)))))<|bL fun F p0 p1 p2 p3 p4 p5=>by
 have:=@bH F Z1 (.int 1)
 have:=fun h0 hm=>@FP F _ _ (.ar .add .i64 Z1 (.int 1)) _ p3 h0 hm (fn _ (pr (fn 1 _) (pr (fn 1 _) (pr (fn 1 _) (pr (fn 1 _) (pr (fn 1 _) _)))))) rfl
 simp only[aa]at *;grind
def PD:=fb YY (cmp .lss (fn 7 (pr (fn 9 (pr Z0 (.int 5))) (.ar .add .i64 Z1 (.int 1)))) (fn 7 (pr (fn 9 (pr Z0 (.int 5))) Z1)))<|am fun F p0 p1 p2=>by
 simp only[aa,ae]at *
 obtain⟨a,b,c⟩:=ab (E.I F Z1+1)
 omega
def PE:=fb (mD::Z6) (.not (cmp .lss (fn 7 (pr (fn 9 (pr Z0 (.int 5))) (.ar .add .i64 Z1 (.int 1)))) (.int 0)))<|ap fun F p0 p1=>by
 simp only[aa,ae]at *
 obtain⟨a,b,c⟩:=ab (E.I F Z1+1)
 omega
def ax:List Fa:=[G27,G28,Px,G30,PC,G32,PD,PE]
theorem aIL:aR Tryz.prog (bj (afl 77 false)):=sc ax (Za 77 false) acA ([]) (by kernel_rfl) (by kernel_rfl)
def acB:Nl:=nc aIL acA
def G35:=fa ((fn 103 (pr Z0 (pr oB (.int 0)))))<|fun F=>by
 rfl
def G36:=fb (mD::Y0::(.not bN)::Z6) (.iff Z5 XI)<|aB fun F p0 p1 p2 p3=>by
 have:=fun h0 h1=>@FO F _ _ (fn 9 (pr Z0 (.int 5))) _ h0 h1 (fn _ (pr (fn 1 _) (pr (fn 1 _) (pr (fn 1 _) (pr (fn 1 _) (pr (fn 1 (pr Z0 (fn 6 (pr (fn 8 (pr Z1 _)) _)))) oB)))))) rfl
 simp only[aa]at *;grind
def G37:=fb [(.not mD),XJ] (.iff iF XI)<|ap fun F p0 p1=>by
 have:=fun h1=>@FN F _ _ (fn 9 (pr Z0 (.int 5))) _ p1 h1
 simp only[aa]at *;grind
def G38:=fb (mD::Y0::bN::XJ::JQ) (fn 103 (pr Z0 (pr oB (.ar .add .i64 Z1 (.int 1)))))<|bL fun F p0 p1 p2 p3 p4 p5=>by
 have:=@bH F Z1 (.int 1)
 have:=fun h0 hm=>@FP F _ _ (.ar .add .i64 Z1 (.int 1)) _ p3 h0 hm (fn _ (pr (fn 1 _) (pr (fn 1 _) (pr (fn 1 _) (pr (fn 1 _) (pr (fn 1 _) _)))))) rfl
 simp only[aa]at *;grind
def aA:List Fa:=[G35,G36,Px,G37,PC,G38,PD,PE]
theorem aIM:aR Tryz.prog (bj (afl 79 true)):=sc aA (Za 79 true) acB ([]) (by kernel_rfl) (by kernel_rfl)
def acC:Nl:=nc aIM acB
def PF:=fa ((cmp .eql (fn 131 (pr Z0 (pr bI (.int 0)))) (.int 0)))<|fun F=>by
 rfl
def G40:=fb (sM::XK::Z6) (.iff Z5 XL)<|am fun F p0 p1 p2=>by
 have:=@aKh F Z0 bI Z1
 simp only[aa]at *;grind
def G41:=fb XN JH<|am fun F p0 p1 p2=>by
 simp only[aa,ae]at *
 obtain⟨a,b,c⟩:=ab (E.I F Z1+1)
 omega
def G42:=fb [(.not sM),XO] (.iff iF XL)<|ap fun F p0 p1=>by
 have:=@aKu F Z0 bI Z1
 simp only[aa]at *;grind
def G43:=fb (sM::Z6) (.not (cmp .lss (fn 0 Z0) (.ar .add .i64 Z1 (.int 1))))<|ap fun F p0 p1=>by
 simp only[aa,ae]at *
 obtain⟨a,b,c⟩:=ab (E.I F Z1+1)
 omega
def G44:=fb (sM::(.not XK)::XO::XM) (cmp .eql (fn 131 (pr Z0 (pr bI (.ar .add .i64 Z1 (.int 1))))) (.int 0))<|aK fun F p0 p1 p2 p3 p4=>by
 have:=@bH F Z1 (.int 1)
 have:=@NB F Z0 bI Z1 (.ar .add .i64 Z1 (.int 1))
 simp only[aa]at *;grind
def G45:=fb XN (cmp .lss (fn 7 (pr (fn 0 Z0) (.ar .add .i64 Z1 (.int 1)))) (fn 7 (pr (fn 0 Z0) Z1)))<|am fun F p0 p1 p2=>by
 simp only[aa,ae]at *
 obtain⟨a,b,c⟩:=ab (E.I F Z1+1)
 omega
def G46:=fb (sM::Z6) (.not (cmp .lss (fn 7 (pr (fn 0 Z0) (.ar .add .i64 Z1 (.int 1)))) (.int 0)))<|ap fun F p0 p1=>by
 simp only[aa,ae]at *
 obtain⟨a,b,c⟩:=ab (E.I F Z1+1)
 omega
def aC:List Fa:=[PF,G40,G41,G42,G43,G44,G45,G46]
theorem aIN:aR Tryz.prog (bj (aIo)):=sc aC (aDe) acC ([]) (by kernel_rfl) (by kernel_rfl)
def acD:Nl:=nc aIN acC
def PJ:=fb [fE,XP] fD<|ap fun F p0 p1=>by
 have:=@cg F Z0 bI ch ce Z1 bN dO dM bi
 simp only[aa]at *;grind
def PK:=fb [fE,Z5,XR] fD<|am fun F p0 p1 p2=>by
 have:=@cg F Z0 bI ch ce Z1 bN dO dM bi
 simp only[aa]at *;grind
def PL:=fb [fE,Z5,jU,XT] fD<|aB fun F p0 p1 p2 p3=>by
 have:=@cg F Z0 bI ch ce Z1 bN dO dM bi
 simp only[aa]at *;grind
def PM:=fb [fE,Z5,jU,kX,XU] fD<|aK fun F p0 p1 p2 p3 p4=>by
 have:=@cg F Z0 bI ch ce Z1 bN dO dM bi
 simp only[aa]at *;grind
def PN:=fb [fE,Z5,jU,kX,qj,XW] fD<|bL fun F p0 p1 p2 p3 p4 p5=>by
 have:=@cg F Z0 bI ch ce Z1 bN dO dM bi
 simp only[aa]at *;grind
def G52:=fb [fE,Z5,jU,kX,qj,wD,XY] fD<|cV fun F p0 p1 p2 p3 p4 p5 p6=>by
 have:=@cg F Z0 bI ch ce Z1 bN dO dM bi
 simp only[aa]at *;grind
def G53:=fb (fE::Z5::jU::kX::qj::wD::BM::BN::JA::qk::(.not BO)::JB::(.not BP)::X3) X4<|DE fun F p0 p1 p2 p3 p4 p5 p6 p7 p8 p9 ai ao aq ax aA aC aL aN bn=>by
 have:=@cg F Z0 bI ch ce Z1 bN dO dM bi
 simp only[aa]at *;grind
def G54:=fb (fE::Z5::jU::kX::qj::wD::BM::BN::JA::qk::(.not BO)::JB::BP::X3) (.iff oB BJ)<|DE fun F p0 p1 p2 p3 p4 p5 p6 p7 p8 p9 ai ao aq ax aA aC aL aN bn=>by
 have:=@cg F Z0 bI ch ce Z1 bN dO dM bi
 simp only[aa]at *;grind
def G55:=fb [qk,(.not BO),(.not JB)] fD<|am fun F p0 p1 p2=>by
 have:=@cg F Z0 bI ch ce Z1 bN dO dM bi
 simp only[aa]at *;grind
def PO:=fb [qk,BO] fD<|ap fun F p0 p1=>by
 have:=@cg F Z0 bI ch ce Z1 bN dO dM bi
 simp only[aa]at *;grind
def PP:=fb [qk,X1] fD<|ap fun F p0 p1=>by
 have:=@cg F Z0 bI ch ce Z1 bN dO dM bi
 simp only[aa]at *;grind
def PQ:=fb [XZ] fD<|ah fun F p0=>by
 have:=@cg F Z0 bI ch ce Z1 bN dO dM bi
 simp only[aa]at *;grind
def G59:=fb [BM,BN,(.not JA)] fD<|am fun F p0 p1 p2=>by
 have:=@cg F Z0 bI ch ce Z1 bN dO dM bi
 simp only[aa]at *;grind
def G60:=fb [BM,(.not BN)] fD<|ap fun F p0 p1=>by
 have:=@cg F Z0 bI ch ce Z1 bN dO dM bi
 simp only[aa]at *;grind
def G61:=fb (fE::Z5::jU::kX::qj::wD::Jz::qk::(.not BP)::X5) X4<|qT fun F p0 p1 p2 p3 p4 p5 p6 p7 p8 p9 ai ao aq ax aA aC=>by
 have:=@cg F Z0 bI ch ce Z1 bN dO dM bi
 simp only[aa]at *;grind
def G62:=fb (fE::Z5::jU::kX::qj::wD::Jz::qk::BP::X5) (.iff oB BJ)<|qT fun F p0 p1 p2 p3 p4 p5 p6 p7 p8 p9 ai ao aq ax aA aC=>by
 have:=@cg F Z0 bI ch ce Z1 bN dO dM bi
 simp only[aa]at *;grind
def PU:=fb [fE,Z5,jU,kX,qj,XX] fD<|bL fun F p0 p1 p2 p3 p4 p5=>by
 have:=@cg F Z0 bI ch ce Z1 bN dO dM bi
 simp only[aa]at *;grind
def P3:=fb [fE,Z5,jU,kX,XV] fD<|aK fun F p0 p1 p2 p3 p4=>by
 have:=@cg F Z0 bI ch ce Z1 bN dO dM bi
 simp only[aa]at *;grind
def Qb:=fb [fE,Z5,jU,JN] fD<|aB fun F p0 p1 p2 p3=>by
 have:=@cg F Z0 bI ch ce Z1 bN dO dM bi
 simp only[aa]at *;grind
def Qc:=fb [fE,Z5,XS] fD<|am fun F p0 p1 p2=>by
 have:=@cg F Z0 bI ch ce Z1 bN dO dM bi
 simp only[aa]at *;grind
def Qd:=fb [fE,Z4] fD<|ap fun F p0 p1=>by
 have:=@cg F Z0 bI ch ce Z1 bN dO dM bi
 simp only[aa]at *;grind
def Qe:=fb [B3] fD<|ah fun F p0=>by
 have:=@cg F Z0 bI ch ce Z1 bN dO dM bi
 simp only[aa]at *;grind
def aL:List Fa:=[PJ,PK,PL,PM,PN,G52,G53,G54,G55,PO,PP,PQ,G59,G60,G61,G62,PU,P3,Qb,Qc,Qd,Qe]
theorem aIO:aR Tryz.prog (bj (afo 82)):=sc aL ([]) acD ([]) (by kernel_rfl) (by kernel_rfl)
def acE:Nl:=nc aIO acD
def G69:=fa ((fn 104 (pr (fn 10 (.int 0)) (pr Z0 (pr (.int 0) JD)))))<|fun F=>by
 rfl
def G70:=fb g9 (.not (cmp .lss (.int 40) (fn 0 (fn 1 (pr Z0 (.int 6))))))<|ah fun F p0=>by
 have:=ak p0
 simp only[aa]at *;omega
def G71:=fb g9 (.not (cmp .lss (.int 40) (fn 0 (fn 1 (pr Z0 (.int 7))))))<|ah fun F p0=>by
 have:=ak p0
 simp only[aa]at *;omega
def Qh:=fb g9 (.not (cmp .lss (.int 40) (fn 0 (fn 1 (pr Z0 (.int 8))))))<|ah fun F p0=>by
 have:=ak p0
 simp only[aa]at *;omega
def G73:=fb g9 (.not (cmp .lss (.int 40) (fn 0 (fn 1 (pr Z0 (.int 9))))))<|ah fun F p0=>by
 have:=ak p0
 simp only[aa]at *;omega
def Qn:=fb [mz] X7<|ah fun F p0=>by
 simp only[aa,ae]at *
 obtain⟨a,b,c⟩:=ab (E.I F bi+1)
 omega
def G75:=fb g9 (.not (cmp .lss (.int 40) (fn 0 (fn 1 (pr Z0 (.int 20))))))<|ah fun F p0=>by
 have:=ak p0
 simp only[aa]at *;omega
def G76:=fb g9 (.not (cmp .lss (.int 40) (fn 0 (fn 1 (pr Z0 (.int 21))))))<|ah fun F p0=>by
 have:=ak p0
 simp only[aa]at *;omega
def Qo:=fb g9 (.not (cmp .lss (.int 40) (fn 0 (fn 1 (pr Z0 (.int 22))))))<|ah fun F p0=>by
 have:=ak p0
 simp only[aa]at *;omega
def G78:=fb g9 (.not (cmp .lss (.int 40) (fn 0 (fn 1 (pr Z0 (.int 23))))))<|ah fun F p0=>by
 have:=ak p0
 simp only[aa]at *;omega
def Qr:=fb [jV] X7<|ah fun F p0=>by
 simp only[aa,ae]at *
 obtain⟨a,b,c⟩:=ab (E.I F bi+1)
 omega
def lU:=fb g9 (.not (cmp .lss (.int 20) (fn 9 (pr (fn 1 (pr Z0 (.int 29))) (.int 5)))))<|ah fun F p0=>by
 have:=ak p0
 simp only[aa]at *;omega
def G81:=fb [BR,gF,mz] (fn 109 (pr (fn 1 (pr Z0 (.int 6))) mA))<|am fun F p0 p1 p2=>by
 obtain⟨g0,g1⟩:E.I F bi=(0)/\E.I F cF=(0):=by
  simp only[aa]at *;omega
 exact fV 0 0 6 (by decide) (by rfl) g0 g1
def G82:=fb [BS,gF,mz] (fn 109 (pr (fn 1 (pr Z0 (.int 7))) mA))<|am fun F p0 p1 p2=>by
 obtain⟨g0,g1⟩:E.I F bi=(0)/\E.I F cF=(1):=by
  simp only[aa]at *;omega
 exact fV 0 1 7 (by decide) (by rfl) g0 g1
def G83:=fb [BT,gF,mz] (fn 109 (pr (fn 1 (pr Z0 (.int 8))) mA))<|am fun F p0 p1 p2=>by
 obtain⟨g0,g1⟩:E.I F bi=(0)/\E.I F cF=(2):=by
  simp only[aa]at *;omega
 exact fV 0 2 8 (by decide) (by rfl) g0 g1
def G84:=fb ((.not BR)::(.not BS)::(.not BT)::gF::X9) (fn 109 (pr (fn 1 (pr Z0 (.int 9))) mA))<|cV fun F p0 p1 p2 p3 p4 p5 p6=>by
 obtain⟨g0,g1⟩:E.I F bi=(0)/\E.I F cF=(3):=by
  simp only[aa]at *;omega
 exact fV 0 3 9 (by decide) (by rfl) g0 g1
def Qu:=fb [mz] Ya<|ah fun F p0=>by
 simp only[aa,ae]at *
 obtain⟨a,b,c⟩:=ab (E.I F bi+1)
 omega
def G86:=fb (jV::BR::g9) (fn 109 (pr (fn 1 (pr Z0 (.int 20))) mA))<|am fun F p0 p1 p2=>by
 obtain⟨g0,g1⟩:E.I F bi=(1)/\E.I F cF=(0):=by
  simp only[aa]at *;omega
 exact fV 1 0 20 (by decide) (by rfl) g0 g1
def G87:=fb (jV::BS::g9) (fn 109 (pr (fn 1 (pr Z0 (.int 21))) mA))<|am fun F p0 p1 p2=>by
 obtain⟨g0,g1⟩:E.I F bi=(1)/\E.I F cF=(1):=by
  simp only[aa]at *;omega
 exact fV 1 1 21 (by decide) (by rfl) g0 g1
def G88:=fb (jV::BT::g9) (fn 109 (pr (fn 1 (pr Z0 (.int 22))) mA))<|am fun F p0 p1 p2=>by
 obtain⟨g0,g1⟩:E.I F bi=(1)/\E.I F cF=(2):=by
  simp only[aa]at *;omega
 exact fV 1 2 22 (by decide) (by rfl) g0 g1
def G89:=fb (jV::(.not BR)::(.not BS)::(.not BT)::gF::ql) (fn 109 (pr (fn 1 (pr Z0 (.int 23))) mA))<|cV fun F p0 p1 p2 p3 p4 p5 p6=>by
 obtain⟨g0,g1⟩:E.I F bi=(1)/\E.I F cF=(3):=by
  simp only[aa]at *;omega
 exact fV 1 3 23 (by decide) (by rfl) g0 g1
def Qv:=fb [jV] Ya<|ah fun F p0=>by
 simp only[aa,ae]at *
 obtain⟨a,b,c⟩:=ab (E.I F bi+1)
 omega
def G91:=fb [(.not (cmp .lss bi (.int 2))),gF,(fn 104 (pr (var 9) (pr Z0 (pr bi JD)))),(.not (cmp .lss (.int 2) bi))] (fn 105 (pr (var 9) (pr Z0 (.int 0))))<|aB fun F p0 p1 p2 p3=>by
 have g0:E.I F bi=(2):=by
  simp only[aa]at *;omega
 have g1:E.I F _=E.I F (.int 0):=rfl;have g2:E.I F _=E.I F (.int 0):=rfl;have g3:E.I F _=E.I F (.int 0):=rfl;exact aKc p2 g0 g1 g2 g3
def G92:=fb (qm::(fn 33 (pr sO (fn 1 (pr iE dN))))::wE::wF::Yb) jW<|c9 fun F p0 p1 p2 p3 p4 p5 p6 p7=>by
 have:=@FQ F _ _ _ (fn 6 (pr dN (.int 1))) _ _ _ p2 p3
 simp only[aa]at *;grind
def G93:=fb Yd (.not (cmp .lss (.ar .add .i64 dN (.int 1)) (.int 0)))<|am fun F p0 p1 p2=>by
 simp only[aa,ae]at *
 obtain⟨a,b,c⟩:=ab (E.I F dN+1)
 omega
def G94:=fb ql (.not (cmp .lss (.ar .add .i64 cF (.int 1)) (.int 0)))<|ap fun F p0 p1=>by
 simp only[aa,ae]at *
 obtain⟨a,b,c⟩:=ab (E.I F cF+1)
 omega
def G95:=fb (jV::qm::(fn 33 (pr sO (fn 1 (pr iE dN))))::wE::wF::Ye) jW<|c9 fun F p0 p1 p2 p3 p4 p5 p6 p7=>by
 have:=@FQ F _ _ _ (fn 6 (pr dN (.int 1))) _ _ _ p3 p4
 simp only[aa]at *;grind
def G96:=fb ((.not BU)::gF::mz::Yg) Yh<|aK fun F p0 p1 p2 p3 p4=>by
 obtain⟨g0,g1,g2,g3,g4⟩:(0)<=E.I F bi/\(0)<=E.I F cF/\(0)<=E.I F (.ar .add .i64 bi (.int 1))/\(0)<=(0)/\E.I F (fn 6 (pr (fn 8 (pr (.ar .add .i64 bi (.int 1)) (.int 4))) (.int 0)))=E.I F (fn 6 (pr (fn 8 (pr bi (.int 4))) cF)):=by
  simp only[aa,ae]at *
  obtain⟨a,b,c⟩:=ab (E.I F bi+1)
  omega
 have g5:E.I F _=E.I F (.int 0):=rfl;exact afC p3 (by omega) (by omega) (by omega) (by simp_all) g4 g5
def G97:=fb (jV::(.not BU)::gF::Yg) Yh<|aK fun F p0 p1 p2 p3 p4=>by
 obtain⟨g0,g1,g2,g3,g4⟩:(0)<=E.I F bi/\(0)<=E.I F cF/\(0)<=E.I F (.ar .add .i64 bi (.int 1))/\(0)<=(0)/\E.I F (fn 6 (pr (fn 8 (pr (.ar .add .i64 bi (.int 1)) (.int 4))) (.int 0)))=E.I F (fn 6 (pr (fn 8 (pr bi (.int 4))) cF)):=by
  simp only[aa,ae]at *
  obtain⟨a,b,c⟩:=ab (E.I F bi+1)
  omega
 have g5:E.I F _=E.I F (.int 0):=rfl;exact afC p3 (by omega) (by omega) (by omega) (by simp_all) g4 g5
def G98:=fa ((fn 106 (pr (fn 10 (.int 0)) (pr Z0 (.int 0)))))<|fun F=>by
 rfl
def G99:=fb Yi (.not (cmp .lss (fn 0 iE) (.ar .add .i64 dN (.int 1))))<|ap fun F p0 p1=>by
 simp only[aa,ae]at *
 obtain⟨a,b,c⟩:=ab (E.I F dN+1)
 omega
def agQ:=fb ql (.not (cmp .lss (.int 4) (.ar .add .i64 cF (.int 1))))<|ap fun F p0 p1=>by
 simp only[aa,ae]at *
 obtain⟨a,b,c⟩:=ab (E.I F cF+1)
 omega
def Pe:=fb [mz] Yj<|ah fun F p0=>by
 simp only[aa,ae]at *
 obtain⟨a,b,c⟩:=ab (E.I F bi+1)
 omega
def Pf:=fb [jV] Yj<|ah fun F p0=>by
 simp only[aa,ae]at *
 obtain⟨a,b,c⟩:=ab (E.I F bi+1)
 omega
def ahh:=fb (sP::JG::(fn 33 (pr sQ (fn 1 (pr (fn 1 (pr Z0 (.int 29))) (fn 6 (pr (fn 8 (pr cT (.int 5))) (.int 1)))))))::Yp) jW<|bL fun F p0 p1 p2 p3 p4 p5=>by
 have:=fun a b hn=>@zw F (fn 6 (pr cT (.int 1))) _ _ _ _ p4 p3 a b hn _ _ _ _ rfl rfl rfl rfl
 simp only[aa]at *;grind
def ahs:=fb BW (.not (cmp .lss (.ar .add .i64 cT (.int 1)) (.int 0)))<|am fun F p0 p1 p2=>by
 have:=ak p0
 simp only[aa,ae]at *
 obtain⟨a,b,c⟩:=ab (E.I F cT+1)
 omega
def Aa:=fb g9 (.not (cmp .lss (.int 30) (fn 9 (pr (fn 1 (pr Z0 (.int 0))) (.int 12)))))<|ah fun F p0=>by
 have:=ak p0
 simp only[aa]at *;omega
def ahH:=fb (qm::Yq::wE::wF::JF::Yb) Yr<|di fun F p0 p1 p2 p3 p4 p5 p6 p7 p8=>by
 have:=@bH F dN (.int 1)
 have:=@FQ F _ _ _ (.ar .add .i64 dN (.int 1)) _ _ _ p2 p3
 simp only[aa]at *;grind
def ahI:=fb ((.not qm)::gF::wE::wF::(.not (cmp .lss (fn 0 iE) dN))::ql) (fn 104 (pr sO (pr Z0 (pr bi (pr (.ar .add .i64 cF (.int 1)) (.int 0))))))<|cV fun F p0 p1 p2 p3 p4 p5 p6=>by
 obtain⟨g0,g1,g2⟩:(0)<=E.I F cF/\E.I F dN=E.I F (fn 0 iE)/\E.I F (.ar .add .i64 cF (.int 1))=E.I F (fn 6 (pr cF (.int 1))):=by
  simp only[aa,ae]at *
  obtain⟨a,b,c⟩:=ab (E.I F cF+1)
  omega
 have g3:E.I F _=E.I F (.int 0):=rfl;exact aKa p2 p3 (by omega) g1 g2 g3
def ahJ:=fb (jV::qm::Yq::wE::wF::JF::Ye) Yr<|di fun F p0 p1 p2 p3 p4 p5 p6 p7 p8=>by
 have:=@bH F dN (.int 1)
 have:=@FQ F _ _ _ (.ar .add .i64 dN (.int 1)) _ _ _ p3 p4
 simp only[aa]at *;grind
def Pk:=fb [mz] Ys<|ah fun F p0=>by
 simp only[aa,ae]at *
 obtain⟨a,b,c⟩:=ab (E.I F bi+1)
 omega
def Pl:=fb [jV] Ys<|ah fun F p0=>by
 simp only[aa,ae]at *
 obtain⟨a,b,c⟩:=ab (E.I F bi+1)
 omega
def ahK:=fb BW (.not (cmp .lss (fn 9 (pr (fn 1 (pr Z0 (.int 29))) (.int 5))) (.ar .add .i64 cT (.int 1))))<|am fun F p0 p1 p2=>by
 simp only[aa,ae]at *
 obtain⟨a,b,c⟩:=ab (E.I F cT+1)
 omega
def ahL:=fb ((.not sP)::gF::Yn::Yt) (fn 105 (pr sQ BX))<|aB fun F p0 p1 p2 p3=>by
 have g0:E.I F (fn 9 (pr (fn 1 (pr Z0 (.int 29))) (.int 5)))=E.I F cT:=by
  simp only[aa]at *;omega
 grind[aKb]
def ahM:=fb Yd (cmp .lss (fn 7 (pr (fn 0 iE) (.ar .add .i64 dN (.int 1)))) (fn 7 (pr (fn 0 iE) dN)))<|am fun F p0 p1 p2=>by
 simp only[aa,ae]at *
 obtain⟨a,b,c⟩:=ab (E.I F dN+1)
 omega
def ahN:=fb ql (cmp .lss (fn 7 (pr (.int 4) (.ar .add .i64 cF (.int 1)))) (fn 7 (pr (.int 4) cF)))<|ap fun F p0 p1=>by
 simp only[aa,ae]at *
 obtain⟨a,b,c⟩:=ab (E.I F cF+1)
 omega
def ahO:=fb Yw (fn 105 (pr (fn 34 (pr sQ (pr (fn 1 (pr (fn 1 (pr Z0 (.int 29))) (fn 6 (pr (fn 8 (pr cT (.int 5))) (.int 1))))) (fn 1 (pr (fn 1 (pr Z0 (.int 29))) (fn 6 (pr (fn 8 (pr cT (.int 5))) (.int 0)))))))) BY))<|cV fun F p0 p1 p2 p3 p4 p5 p6=>by
 have:=ak p3
 have:=@bH F cT (.int 1)
 have:=fun a b hn=>@zw F (.ar .add .i64 cT (.int 1)) _ _ _ _ p5 p4 a b hn _ _ _ _ rfl rfl rfl rfl
 simp only[aa]at *;grind
def ahP:=fb Yx (fn 105 (pr sQ BY))<|bL fun F p0 p1 p2 p3 p4 p5=>by
 have:=ak p2
 have:=@bH F cT (.int 1)
 have:=fun a b hn=>@zw F (.ar .add .i64 cT (.int 1)) _ _ _ _ p4 p3 a b hn _ _ _ _ rfl rfl rfl rfl
 simp only[aa]at *;grind
def ahQ:=fb ((.not sP)::gF::Ym::Yt) (fn 106 (pr BV BX))<|aB fun F p0 p1 p2 p3=>by
 have g0:E.I F (fn 9 (pr (fn 1 (pr Z0 (.int 29))) (.int 5)))=E.I F cT:=by
  simp only[aa]at *;omega
 grind[aKd]
def ahR:=fb Yi (.not (cmp .lss (fn 7 (pr (fn 0 iE) (.ar .add .i64 dN (.int 1)))) (.int 0)))<|ap fun F p0 p1=>by
 simp only[aa,ae]at *
 obtain⟨a,b,c⟩:=ab (E.I F dN+1)
 omega
def ahS:=fb ql (.not (cmp .lss (fn 7 (pr (.int 4) (.ar .add .i64 cF (.int 1)))) (.int 0)))<|ap fun F p0 p1=>by
 simp only[aa,ae]at *
 obtain⟨a,b,c⟩:=ab (E.I F cF+1)
 omega
def ahT:=fb Yw (fn 106 (pr (fn 34 (pr BV (pr (fn 1 (pr (fn 1 (pr Z0 (.int 29))) (fn 6 (pr (fn 8 (pr cT (.int 5))) (.int 1))))) (fn 1 (pr (fn 1 (pr Z0 (.int 29))) (fn 6 (pr (fn 8 (pr cT (.int 5))) (.int 2)))))))) BY))<|cV fun F p0 p1 p2 p3 p4 p5 p6=>by
 have:=ak p3
 have:=@bH F cT (.int 1)
 have:=fun a b hn=>@zw F (.ar .add .i64 cT (.int 1)) _ _ _ _ p5 p4 a b hn _ _ _ _ rfl rfl rfl rfl
 simp only[aa]at *;grind
def ahU:=fb Yx (fn 106 (pr BV BY))<|bL fun F p0 p1 p2 p3 p4 p5=>by
 have:=ak p2
 have:=@bH F cT (.int 1)
 have:=fun a b hn=>@zw F (.ar .add .i64 cT (.int 1)) _ _ _ _ p4 p3 a b hn _ _ _ _ rfl rfl rfl rfl
 simp only[aa]at *;grind
def ahV:=fa ((fn 107 (pr Z0 (.int 0))))<|fun F=>by
 rfl
def ahW:=fb BW (cmp .lss (fn 7 (pr (fn 9 (pr (fn 1 (pr Z0 (.int 29))) (.int 5))) (.ar .add .i64 cT (.int 1)))) (fn 7 (pr (fn 9 (pr (fn 1 (pr Z0 (.int 29))) (.int 5))) cT)))<|am fun F p0 p1 p2=>by
 have:=ak p0
 simp only[aa,ae]at *
 obtain⟨a,b,c⟩:=ab (E.I F cT+1)
 omega
def ahX:=fb JI (.not (cmp .lss (.ar .sub .i64 aT (.int 1)) (.int 0)))<|am fun F p0 p1 p2=>by
 have:=ak p0
 simp only[aa,ae]at *
 obtain⟨a,b,c⟩:=ab ((E.I F aT)-(1))
 omega
def ahY:=fb [(.not gG),JJ,JK,(.not (cmp .lss (fn 9 (pr (fn 1 (pr Z0 (.int 0))) (.int 12))) aT))] (.iff (cmp .eql (fn 0 kW) (fn 9 (pr (fn 1 (pr Z0 (.int 0))) (.int 12)))) (fn 108 Z0))<|aB fun F p0 p1 p2 p3=>by
 have:=@aLv F _ _ _ p2 p1
 simp only[aa]at *;grind
def ahZ:=fb BW (.not (cmp .lss (fn 7 (pr (fn 9 (pr (fn 1 (pr Z0 (.int 29))) (.int 5))) (.ar .add .i64 cT (.int 1)))) (.int 0)))<|am fun F p0 p1 p2=>by
 simp only[aa,ae]at *
 obtain⟨a,b,c⟩:=ab (E.I F cT+1)
 omega
def ah0:=fb BZ (cmp .lss (.ar .sub .i64 aT (.int 1)) (fn 9 (pr (fn 1 (pr Z0 (.int 0))) (.int 12))))<|ap fun F p0 p1=>by
 simp only[aa,ae]at *
 obtain⟨a,b,c⟩:=ab ((E.I F aT)-(1))
 omega
def ah1:=fb JL YB<|ap fun F p0 p1=>by
 simp only[aa,ae]at *
 obtain⟨a,b,c⟩:=ab (E.I F aT+1)
 omega
def ah2:=fb (gG::oA::mB::sR::(fn 33 (pr kW (fn 1 (pr (fn 1 (pr Z0 (.int 0))) (fn 6 (pr (fn 8 (pr aT (.int 12))) (.int 0)))))))::(fn 33 (pr wG (fn 1 (pr (fn 1 (pr Z0 (.int 0))) (fn 6 (pr (fn 8 (pr aT (.int 12))) (.int 0)))))))::(.not B0)::wH) jW<|eS fun F p0 p1 p2 p3 p4 p5 p6 p7 p8 p9 ai=>by
 have:=@jE F _ (fn 6 (pr aT (.int 1))) _ _ _ p9 p8 p7 (.ar .sub .i64 aT (.int 1)) _ _ _ _ _ _ _ _ _ rfl rfl rfl rfl rfl rfl rfl rfl rfl
 simp only[aa]at *;grind
def ah3:=fb (gG::sR::(.not sS)::wH) jW<|cV fun F p0 p1 p2 p3 p4 p5 p6=>by
 have:=@jE F _ (fn 6 (pr aT (.int 1))) _ _ _ p5 p4 p3 (.ar .sub .i64 aT (.int 1)) _ _ _ _ _ _ _ _ _ rfl rfl rfl rfl rfl rfl rfl rfl rfl
 simp only[aa]at *;grind
def ah4:=fb (gG::sR::YD::wH) jW<|cV fun F p0 p1 p2 p3 p4 p5 p6=>by
 have:=@jE F _ (fn 6 (pr aT (.int 1))) _ _ _ p5 p4 p3 (.ar .sub .i64 aT (.int 1)) _ _ _ _ _ _ _ _ _ rfl rfl rfl rfl rfl rfl rfl rfl rfl
 simp only[aa]at *;grind
def ah5:=fb JI YB<|am fun F p0 p1 p2=>by
 have:=ak p0
 simp only[aa,ae]at *
 obtain⟨a,b,c⟩:=ab (E.I F aT+1)
 omega
def ah6:=fb (gG::oA::mB::oz::B1::(fn 33 (pr kW (fn 1 (pr (fn 1 (pr Z0 (.int 0))) (fn 6 (pr (fn 8 (pr aT (.int 12))) (.int 0)))))))::(fn 33 (pr wG (fn 1 (pr (fn 1 (pr Z0 (.int 0))) (fn 6 (pr (fn 8 (pr aT (.int 12))) (.int 0)))))))::(.not B0)::qn) jW<|jr fun F p0 p1 p2 p3 p4 p5 p6 p7 p8 p9 ai ao aq=>by
 have:=ak aq
 have:=@kz F aT (.int 1)
 have:=@jE F _ (fn 6 (pr aT (.int 1))) _ _ _ ai p9 p8 (.ar .sub .i64 aT (.int 1)) _ _ _ _ _ _ _ _ _ rfl rfl rfl rfl rfl rfl rfl rfl rfl
 simp only[aa]at *;grind
def ah7:=fb (gG::oz::(.not sS)::qn) jW<|c9 fun F p0 p1 p2 p3 p4 p5 p6 p7=>by
 have:=ak p7
 have:=@kz F aT (.int 1)
 have:=@jE F _ (fn 6 (pr aT (.int 1))) _ _ _ p5 p4 p3 (.ar .sub .i64 aT (.int 1)) _ _ _ _ _ _ _ _ _ rfl rfl rfl rfl rfl rfl rfl rfl rfl
 simp only[aa]at *;grind
def ah8:=fb (gG::oz::YD::qn) jW<|c9 fun F p0 p1 p2 p3 p4 p5 p6 p7=>by
 have:=ak p7
 have:=@kz F aT (.int 1)
 have:=@jE F _ (fn 6 (pr aT (.int 1))) _ _ _ p5 p4 p3 (.ar .sub .i64 aT (.int 1)) _ _ _ _ _ _ _ _ _ rfl rfl rfl rfl rfl rfl rfl rfl rfl
 simp only[aa]at *;grind
def ah9:=fb (gG::oA::mB::oz::(.not B1)::qn) jW<|eR fun F p0 p1 p2 p3 p4 p5 p6 p7 p8 p9=>by
 have:=ak p9
 have:=@kz F aT (.int 1)
 have:=@jE F _ (fn 6 (pr aT (.int 1))) _ _ _ p7 p6 p5 (.ar .sub .i64 aT (.int 1)) _ _ _ _ _ _ _ _ _ rfl rfl rfl rfl rfl rfl rfl rfl rfl
 simp only[aa]at *;grind
def aia:=fb (gG::oA::(.not mB)::qn) jW<|c9 fun F p0 p1 p2 p3 p4 p5 p6 p7=>by
 have:=ak p7
 have:=@kz F aT (.int 1)
 have:=@jE F _ (fn 6 (pr aT (.int 1))) _ _ _ p5 p4 p3 (.ar .sub .i64 aT (.int 1)) _ _ _ _ _ _ _ _ _ rfl rfl rfl rfl rfl rfl rfl rfl rfl
 simp only[aa]at *;grind
def aib:=fb YE YF<|am fun F p0 p1 p2=>by
 simp only[aa,ae]at *
 obtain⟨a,b,c⟩:=ab (E.I F aT+1)
 omega
def aic:=fb BZ YF<|ap fun F p0 p1=>by
 simp only[aa,ae]at *
 obtain⟨a,b,c⟩:=ab (E.I F aT+1)
 omega
def aid:=fb (gG::oA::mB::sR::(fn 33 (pr kW (fn 1 (pr (fn 1 (pr Z0 (.int 0))) (fn 6 (pr (fn 8 (pr aT (.int 12))) (.int 0)))))))::sS::YG::wH) B2<|eS fun F p0 p1 p2 p3 p4 p5 p6 p7 p8 p9 ai=>by
 have:=@bH F aT (.int 1)
 have:=@jE F _ (.ar .add .i64 aT (.int 1)) _ _ _ p9 p8 p7 (.ar .sub .i64 aT (.int 1)) _ _ _ _ _ _ _ _ _ rfl rfl rfl rfl rfl rfl rfl rfl rfl
 simp only[aa]at *;grind
def aie:=fb (gG::oA::mB::sR::(fn 33 (pr kW (fn 1 (pr (fn 1 (pr Z0 (.int 0))) (fn 6 (pr (fn 8 (pr aT (.int 12))) (.int 0)))))))::sS::B0::wH) B2<|eS fun F p0 p1 p2 p3 p4 p5 p6 p7 p8 p9 ai=>by
 have:=@bH F aT (.int 1)
 have:=@jE F _ (.ar .add .i64 aT (.int 1)) _ _ _ p9 p8 p7 (.ar .sub .i64 aT (.int 1)) _ _ _ _ _ _ _ _ _ rfl rfl rfl rfl rfl rfl rfl rfl rfl
 simp only[aa]at *;grind
def aif:=fb (gG::oA::mB::oz::B1::(fn 33 (pr kW (fn 1 (pr (fn 1 (pr Z0 (.int 0))) (fn 6 (pr (fn 8 (pr aT (.int 12))) (.int 0)))))))::sS::YG::qn) B2<|jr fun F p0 p1 p2 p3 p4 p5 p6 p7 p8 p9 ai ao aq=>by
 have:=ak aq
 have:=@kz F aT (.int 1)
 have:=@bH F aT (.int 1)
 have:=@jE F _ (.ar .add .i64 aT (.int 1)) _ _ _ ai p9 p8 (.ar .sub .i64 aT (.int 1)) _ _ _ _ _ _ _ _ _ rfl rfl rfl rfl rfl rfl rfl rfl rfl
 simp only[aa]at *;grind
def aig:=fb (gG::oA::mB::oz::B1::(fn 33 (pr kW (fn 1 (pr (fn 1 (pr Z0 (.int 0))) (fn 6 (pr (fn 8 (pr aT (.int 12))) (.int 0)))))))::sS::B0::qn) B2<|jr fun F p0 p1 p2 p3 p4 p5 p6 p7 p8 p9 ai ao aq=>by
 have:=ak aq
 have:=@kz F aT (.int 1)
 have:=@bH F aT (.int 1)
 have:=@jE F _ (.ar .add .i64 aT (.int 1)) _ _ _ ai p9 p8 (.ar .sub .i64 aT (.int 1)) _ _ _ _ _ _ _ _ _ rfl rfl rfl rfl rfl rfl rfl rfl rfl
 simp only[aa]at *;grind
def aih:=fb JL YH<|ap fun F p0 p1=>by
 simp only[aa,ae]at *
 obtain⟨a,b,c⟩:=ab (E.I F aT+1)
 omega
def aii:=fb JI YH<|am fun F p0 p1 p2=>by
 have:=ak p0
 simp only[aa,ae]at *
 obtain⟨a,b,c⟩:=ab (E.I F aT+1)
 omega
def aij:=fb YE YI<|am fun F p0 p1 p2=>by
 simp only[aa,ae]at *
 obtain⟨a,b,c⟩:=ab (E.I F aT+1)
 omega
def aik:=fb BZ YI<|ap fun F p0 p1=>by
 simp only[aa,ae]at *
 obtain⟨a,b,c⟩:=ab (E.I F aT+1)
 omega
def aN:List Fa:=[G69,G70,G71,Qh,G73,Qn,G75,G76,Qo,G78,Qr,lU,G81,G82,G83,G84,Qu,G86,G87,G88,G89,Qv,G91,G92,G93,G94,G95,G96,G97,G98,G99,agQ,Pe,Pf,ahh,ahs,Aa,ahH,ahI,ahJ,Pk,Pl,ahK,ahL,ahM,ahN,ahO,ahP,ahQ,ahR,ahS,ahT,ahU,ahV,ahW,ahX,ahY,ahZ,ah0,ah1,ah2,ah3,ah4,ah5,ah6,ah7,ah8,ah9,aia,aib,aic,aid,aie,aif,aig,aih,aii,aij,aik]
theorem aIP:aR Tryz.prog (bj (aIw)):=sc aN (aDj) acE ([]) (by kernel_rfl) (by kernel_rfl)
def acF:Nl:=nc aIP acE
end
end Go.Proofs.YtnggbcblogpnfaaGreat.combatAttacks
