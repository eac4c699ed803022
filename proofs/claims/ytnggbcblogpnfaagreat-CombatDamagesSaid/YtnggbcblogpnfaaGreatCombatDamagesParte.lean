/-
  CombatDamages: contracts of functions, part 5.
-/
import Derived.Test.YtnggbcblogpnfaaGreatCombatDamagesPartd
namespace Go.Proofs.YtnggbcblogpnfaaGreat.combatDamages
open Go.ChangeShapes Go.WideShapes Go.ChangeAt Go.RowKit
open Go.SX
open Go.SX.E (fn pr cmp var)
set_option linter.unusedVariables false
set_option linter.unusedSimpArgs false
set_option maxRecDepth 100000
noncomputable section
abbrev Z0:E:=var 0
abbrev Z1:E:=var 4
abbrev Z2:E:=cmp .lss Z1 (fn 9 (pr Z0 (.int 2)))
abbrev Z3:E:=cmp .lss (fn 1 (pr Z0 (fn 6 (pr (fn 8 (pr Z1 (.int 2))) (.int 0))))) (.int 0)
abbrev Z4:E:=cmp .lss Z1 (.int 0)
abbrev Z5:E:=.not Z4
abbrev Z6:=[Z5]
abbrev Z7:E:=pr Z0 (fn 9 (pr Z0 (.int 2)))
abbrev Z8:E:=fn 101 Z7
abbrev Z9:E:=.not Z8
abbrev xI:E:=.iff Z5 Z9
abbrev tZ:E:=.not Z3
abbrev W4:E:=cmp .lss (fn 1 (pr Z0 (fn 6 (pr (fn 8 (pr Z1 (.int 2))) (.int 1))))) (.int 0)
abbrev B5:E:=.not W4
abbrev Ca:E:=cmp .lss (.int 1) (fn 1 (pr Z0 (fn 6 (pr (fn 8 (pr Z1 (.int 2))) (.int 1)))))
abbrev Jw:E:=cmp .eql (fn 1 (pr Z0 (fn 6 (pr (fn 8 (pr Z1 (.int 2))) (.int 0))))) (.int 0)
abbrev Xk:E:=cmp .eql (fn 1 (pr Z0 (fn 6 (pr (fn 8 (pr Z1 (.int 2))) (.int 1))))) (.int 0)
abbrev Z17:E:=cmp .lss (.int 1000) (fn 9 (pr Z0 (.int 2)))
abbrev Z18:E:=.not Z17
abbrev Z19:=[Z18]
abbrev Xt:=Z5::Z19
abbrev Xy:=Z2::Xt
abbrev Z22:E:=cmp .lss (.ar .add .i64 Z1 (.int 1)) (.int 0)
abbrev JB:E:=.not Z22
abbrev XJ:E:=cmp .lss (.int 500) (fn 1 (pr Z0 (fn 6 (pr (fn 8 (pr Z1 (.int 2))) (.int 0)))))
abbrev XM:E:=fn 101 (pr Z0 Z1)
abbrev jA:E:=.bool false
abbrev Z27:=XM::Xt
abbrev XX:List E:=(.not XJ)::Z27
abbrev Z29:E:=pr Z0 (.ar .add .i64 Z1 (.int 1))
abbrev XY:E:=fn 101 Z29
abbrev XZ:E:=cmp .lss Z0 (.int 0)
abbrev bZ:E:=var 1
abbrev cN:E:=var 2
abbrev cJ:E:=var 3
abbrev ce:E:=var 5
abbrev Z36:E:=pr cJ (pr Z1 ce)
abbrev Z37:E:=pr cN Z36
abbrev Z38:E:=pr bZ Z37
abbrev Z39:E:=pr Z0 Z38
abbrev X0:E:=fn 102 Z39
abbrev lE:E:=.iff jA X0
abbrev jB:E:=.not XZ
abbrev X1:E:=cmp .lss (.int 1) Z0
abbrev kr:E:=.not X1
abbrev X2:E:=cmp .lss bZ (.int 1)
abbrev lF:E:=.not X2
abbrev X3:E:=cmp .lss cN (.int 0)
abbrev nW:E:=.not X3
abbrev X4:E:=cmp .lss cJ (.int (-1))
abbrev rL:E:=.not X4
abbrev X5:E:=cmp .lss (.int 1) cJ
abbrev ud:E:=.not X5
abbrev X6:E:=cmp .lss (.int 4) (fn 9 (pr Z1 (.int 2)))
abbrev xO:E:=.not X6
abbrev Cn:E:=cmp .lss cJ (.int 0)
abbrev gF:E:=.not Cn
abbrev JG:E:=cmp .lss (.int 0) (fn 9 (pr Z1 (.int 2)))
abbrev eW:E:=var 6
abbrev JH:E:=cmp .lss eW (.int 0)
abbrev mw:E:=.not JH
abbrev Z61:E:=pr Z1 (fn 9 (pr Z1 (.int 2)))
abbrev Z62:E:=fn 101 Z61
abbrev Z63:E:=.not Z62
abbrev Z64:E:=.iff mw Z63
abbrev X7:E:=cmp .lss (.int 500) bZ
abbrev Z66:E:=.not X7
abbrev X8:E:=cmp .lss (.int 399) cN
abbrev Z68:E:=.not X8
abbrev Z69:=[Z68]
abbrev X9:=Z66::Z69
abbrev JI:=Z64::X9
abbrev JJ:E:=.iff JH X0
abbrev nX:E:=cmp .lss Z1 (fn 9 (pr Z0 (.int 5)))
abbrev Z74:E:=pr (fn 1 (pr Z0 (fn 6 (pr (fn 8 (pr Z1 (.int 5))) (.int 4))))) jA
abbrev Z75:E:=pr (fn 1 (pr Z0 (fn 6 (pr (fn 8 (pr Z1 (.int 5))) (.int 3))))) Z74
abbrev Z76:E:=pr (fn 1 (pr Z0 (fn 6 (pr (fn 8 (pr Z1 (.int 5))) (.int 2))))) Z75
abbrev Z77:E:=pr (fn 1 (pr Z0 (fn 6 (pr (fn 8 (pr Z1 (.int 5))) (.int 1))))) Z76
abbrev Z78:E:=pr (fn 1 (pr Z0 (fn 6 (pr (fn 8 (pr Z1 (.int 5))) (.int 0))))) Z77
abbrev Z79:E:=fn 102 Z78
abbrev Ya:E:=.iff ce Z79
abbrev Z81:E:=pr jA (fn 9 (pr Z0 (.int 5)))
abbrev Z82:E:=pr Z0 Z81
abbrev Z83:E:=fn 103 Z82
abbrev Yb:E:=.not Z83
abbrev Z85:E:=cmp .lss (.int 1000) (fn 9 (pr Z0 (.int 5)))
abbrev Z86:E:=.not Z85
abbrev Z87:=[Z86]
abbrev JK:=Z5::Z87
abbrev Yc:=nX::JK
abbrev Z90:E:=pr Z0 (pr jA Z1)
abbrev Yd:E:=fn 103 Z90
abbrev pu:E:=.bool true
abbrev Z93:E:=pr (fn 1 (pr Z0 (fn 6 (pr (fn 8 (pr Z1 (.int 5))) (.int 4))))) pu
abbrev Z94:E:=pr (fn 1 (pr Z0 (fn 6 (pr (fn 8 (pr Z1 (.int 5))) (.int 3))))) Z93
abbrev Z95:E:=pr (fn 1 (pr Z0 (fn 6 (pr (fn 8 (pr Z1 (.int 5))) (.int 2))))) Z94
abbrev Z96:E:=pr (fn 1 (pr Z0 (fn 6 (pr (fn 8 (pr Z1 (.int 5))) (.int 1))))) Z95
abbrev Z97:E:=pr (fn 1 (pr Z0 (fn 6 (pr (fn 8 (pr Z1 (.int 5))) (.int 0))))) Z96
abbrev Z98:E:=fn 102 Z97
abbrev Ye:E:=.iff ce Z98
abbrev azU:E:=pr pu (fn 9 (pr Z0 (.int 5)))
abbrev azV:E:=pr Z0 azU
abbrev azW:E:=fn 103 azV
abbrev WV:E:=.not azW
abbrev azX:E:=pr Z0 (pr pu Z1)
abbrev WW:E:=fn 103 azX
abbrev tY:E:=cmp .lss Z1 (fn 0 Z0)
abbrev WX:E:=cmp .eql bZ (fn 1 (pr Z0 Z1))
abbrev WY:E:=fn 114 (pr Z0 bZ)
abbrev azY:E:=cmp .lss (.int 1000) (fn 0 Z0)
abbrev azZ:E:=.not azY
abbrev az0:=[azZ]
abbrev WZ:=Z5::az0
abbrev W1:=tY::WZ
abbrev W2:E:=cmp .eql (fn 131 (pr Z0 (pr bZ Z1))) (.int 0)
abbrev W3:E:=cmp .lss (.int 99) cJ
abbrev eT:E:=var 7
abbrev bq:E:=var 8
abbrev B4:E:=fn 137 (pr Z0 (pr bZ (pr cN (pr cJ (pr Z1 (pr ce (pr eW (pr eT bq))))))))
abbrev gD:E:=.iff jA B4
abbrev W5:E:=cmp .lss (.int 99) Z1
abbrev W6:E:=cmp .lss ce (.int 0)
abbrev lB:E:=.not W6
abbrev W7:E:=cmp .lss (.int 99) ce
abbrev W8:E:=cmp .lss (.int 99) eW
abbrev W9:E:=cmp .lss eT (.int 0)
abbrev rF:E:=.not W9
abbrev Xa:E:=cmp .lss (.int 99) eT
abbrev Xb:E:=cmp .lss bq (.int 0)
abbrev xJ:E:=.not Xb
abbrev Xc:E:=cmp .lss (.int 99) bq
abbrev Jt:E:=cmp .eql bZ (.int (-1))
abbrev B6:E:=.not Jt
abbrev B7:E:=cmp .eql cJ (.int 0)
abbrev Ju:E:=cmp .eql Z1 (.int 0)
abbrev Xd:E:=cmp .lss Z0 (.int 1)
abbrev rG:E:=.not Xd
abbrev B8:E:=cmp .lss bZ (.int (-1))
abbrev Jv:E:=cmp .lss bZ (.int 400)
abbrev B9:E:=cmp .eql cN (.int 0)
abbrev Xe:E:=.not W3
abbrev az1:E:=.not W7
abbrev az2:E:=.not W8
abbrev az3:E:=.not Xa
abbrev az4:E:=.not Xc
abbrev Xf:E:=cmp .lss (.int 500) Z0
abbrev az5:E:=.not Xf
abbrev az6:=[az5]
abbrev az7:=az4::az6
abbrev az8:=az3::az7
abbrev az9:=az2::az8
abbrev Xg:=az1::az9
abbrev Xh:=Xe::Xg
abbrev aAa:E:=cmp .eql cN (.int 1)
abbrev Xi:E:=.iff aAa B4
abbrev aAb:List E:=(.not W5)::Xg
abbrev Xj:=Xe::aAb
abbrev Jx:E:=pr (.int 0) (.int 0)
abbrev iP:E:=fn 117 Z0
abbrev jc:=[iP]
abbrev nT:E:=cmp .eql bq (.int 0)
abbrev aAc:E:=cmp .lss (.ar .add .i64 bq (.int 1)) (.int 0)
abbrev Xl:E:=.not aAc
abbrev lC:E:=cmp .eql bq (.int 1)
abbrev dw:E:=var 16
abbrev Cb:E:=cmp .eql dw (.int 0)
abbrev nU:E:=pr Z0 (pr bq dw)
abbrev Cc:E:=cmp .eql dw (.int 1)
abbrev Cd:E:=cmp .eql dw (.int 2)
abbrev Ce:E:=cmp .lss dw (.int 4)
abbrev aAd:E:=cmp .lss dw (.int 0)
abbrev Xm:E:=.not aAd
abbrev aAe:=[Xm,nT]
abbrev Xn:=Ce::aAe
abbrev aAf:E:=cmp .lss (.int 2) (.ar .add .i64 bq (.int 1))
abbrev Xo:E:=.not aAf
abbrev rH:=[Ce,Xm]
abbrev eU:E:=var 24
abbrev jz:E:=var 28
abbrev rJ:E:=cmp .lss eU (fn 0 jz)
abbrev t7:E:=var 25
abbrev xK:E:=fn 104 (pr t7 (pr Z0 (pr bq (pr dw eU))))
abbrev xL:E:=fn 109 (pr jz nU)
abbrev aAg:E:=cmp .lss eU (.int 0)
abbrev Jy:E:=.not aAg
abbrev Xp:=Jy::Xn
abbrev lD:E:=.iff jA (fn 108 Z0)
abbrev aAh:E:=cmp .lss (.int 40) (fn 0 jz)
abbrev Jz:E:=.not aAh
abbrev Xq:=[Jy]
abbrev aAi:=Jz::Xq
abbrev Xr:=rJ::aAi
abbrev Xs:=Jy::rH
abbrev aAj:E:=pr bq (pr dw (.int 0))
abbrev aAk:E:=pr Z0 aAj
abbrev aAl:E:=pr (var 17) aAk
abbrev aAm:E:=fn 104 aAl
abbrev aAn:E:=cmp .lss (.int 4) dw
abbrev aAo:E:=.not aAn
abbrev aAp:=[aAo]
abbrev Xu:=aAm::aAp
abbrev aAq:E:=pr (.ar .add .i64 bq (.int 1)) Jx
abbrev aAr:E:=pr Z0 aAq
abbrev aAs:E:=pr (var 17) aAr
abbrev Xv:E:=fn 104 aAs
abbrev Xw:=rJ::Xq
abbrev Xx:E:=cmp .lss (fn 7 (pr (.int 2) (.ar .add .i64 bq (.int 1)))) (fn 7 (pr (.int 2) bq))
abbrev dL:E:=var 32
abbrev t8:E:=cmp .lss dL (fn 9 (pr (fn 1 (pr Z0 (.int 29))) (.int 5)))
abbrev JA:E:=cmp .lss (fn 1 (pr (fn 1 (pr Z0 (.int 29))) (fn 6 (pr (fn 8 (pr dL (.int 5))) (.int 3))))) (.int 0)
abbrev ua:E:=var 33
abbrev Cf:E:=var 34
abbrev Xz:E:=pr Z0 dL
abbrev aAt:E:=pr Cf Xz
abbrev XA:E:=fn 106 aAt
abbrev aAu:E:=pr ua Xz
abbrev XB:E:=fn 105 aAu
abbrev aAv:E:=cmp .lss dL (.int 0)
abbrev aAw:E:=.not aAv
abbrev XC:=[aAw]
abbrev aAx:=XB::XC
abbrev XD:=XA::aAx
abbrev aAy:=t8::XC
abbrev Cg:=iP::aAy
abbrev XE:E:=.not (fn 33 (pr t7 (fn 1 (pr jz eU))))
abbrev aAz:E:=pr dw (.ar .add .i64 eU (.int 1))
abbrev aAA:E:=pr bq aAz
abbrev aAB:E:=pr Z0 aAA
abbrev aAC:E:=pr (fn 34 (pr t7 (pr (fn 1 (pr jz eU)) bq))) aAB
abbrev XF:E:=fn 104 aAC
abbrev aAD:E:=cmp .lss (fn 7 (pr (.int 2) (.ar .add .i64 bq (.int 1)))) (.int 0)
abbrev XG:E:=.not aAD
abbrev aAE:E:=cmp .lss (fn 9 (pr (fn 1 (pr Z0 (.int 29))) (.int 5))) dL
abbrev aAF:E:=.not aAE
abbrev XH:=[aAF]
abbrev Ch:E:=pr Z0 (fn 9 (pr (fn 1 (pr Z0 (.int 29))) (.int 5)))
abbrev aAG:E:=.not (fn 33 (pr ua (fn 1 (pr (fn 1 (pr Z0 (.int 29))) (fn 6 (pr (fn 8 (pr dL (.int 5))) (.int 1)))))))
abbrev XI:=iP::XD
abbrev aAH:=aAG::XI
abbrev aAI:=JA::aAH
abbrev XK:=t8::aAI
abbrev Ci:E:=pr Z0 (.ar .add .i64 dL (.int 1))
abbrev aAJ:List E:=(.not JA)::XI
abbrev XL:=t8::aAJ
abbrev aX:E:=var 40
abbrev iQ:E:=cmp .lss aX (fn 9 (pr (fn 1 (pr Z0 (.int 0))) (.int 12)))
abbrev pq:E:=cmp .lss (.int 0) aX
abbrev Cj:=[iQ,pq]
abbrev JC:=iP::Cj
abbrev JD:E:=fn 107 (pr Z0 aX)
abbrev mv:E:=var 41
abbrev JE:E:=fn 105 (pr mv Ch)
abbrev ub:E:=.not pq
abbrev aAK:E:=cmp .lss aX (.int 0)
abbrev XN:E:=.not aAK
abbrev XO:=[XN]
abbrev JF:=ub::XO
abbrev aAL:E:=cmp .lss (.ar .add .i64 aX (.int 1)) (.int 0)
abbrev XP:E:=.not aAL
abbrev nV:E:=var 43
abbrev pt:E:=.iff nV (fn 137 (pr (fn 1 (pr (fn 1 (pr Z0 (.int 0))) (fn 6 (pr (fn 8 (pr aX (.int 12))) (.int 0))))) (pr (fn 1 (pr (fn 1 (pr Z0 (.int 0))) (fn 6 (pr (fn 8 (pr aX (.int 12))) (.int 1))))) (pr (fn 1 (pr (fn 1 (pr Z0 (.int 0))) (fn 6 (pr (fn 8 (pr aX (.int 12))) (.int 2))))) (pr (fn 1 (pr (fn 1 (pr Z0 (.int 0))) (fn 6 (pr (fn 8 (pr aX (.int 12))) (.int 3))))) (pr (fn 1 (pr (fn 1 (pr Z0 (.int 0))) (fn 6 (pr (fn 8 (pr aX (.int 12))) (.int 4))))) (pr (fn 1 (pr (fn 1 (pr Z0 (.int 0))) (fn 6 (pr (fn 8 (pr aX (.int 12))) (.int 5))))) (pr (fn 1 (pr (fn 1 (pr Z0 (.int 0))) (fn 6 (pr (fn 8 (pr aX (.int 12))) (.int 6))))) (pr (fn 1 (pr (fn 1 (pr Z0 (.int 0))) (fn 6 (pr (fn 8 (pr aX (.int 12))) (.int 7))))) (fn 1 (pr (fn 1 (pr Z0 (.int 0))) (fn 6 (pr (fn 8 (pr aX (.int 12))) (.int 8))))))))))))))
abbrev xM:E:=var 42
abbrev Ck:E:=cmp .eql (fn 32 (pr xM (pr (fn 1 (pr (fn 1 (pr Z0 (.int 0))) (fn 6 (pr (fn 8 (pr aX (.int 12))) (.int 0))))) (.int 0)))) (fn 1 (pr (fn 1 (pr Z0 (.int 0))) (fn 6 (pr (fn 8 (pr aX (.int 12))) (.int 1)))))
abbrev XQ:E:=fn 106 (pr xM Ch)
abbrev xN:=JD::XQ::JE::XO
abbrev uc:E:=cmp .eql (fn 32 (pr mv (pr (fn 1 (pr (fn 1 (pr Z0 (.int 0))) (fn 6 (pr (fn 8 (pr aX (.int 12))) (.int 0))))) (.int 0)))) (fn 1 (pr (fn 1 (pr Z0 (.int 0))) (fn 6 (pr (fn 8 (pr aX (.int 12))) (.int 2)))))
abbrev XR:E:=.not (fn 33 (pr mv (fn 1 (pr (fn 1 (pr Z0 (.int 0))) (fn 6 (pr (fn 8 (pr aX (.int 12))) (.int 0)))))))
abbrev Cl:E:=cmp .lss (fn 1 (pr (fn 1 (pr Z0 (.int 0))) (fn 6 (pr (fn 8 (pr (.ar .sub .i64 aX (.int 1)) (.int 12))) (.int 0))))) (fn 1 (pr (fn 1 (pr Z0 (.int 0))) (fn 6 (pr (fn 8 (pr aX (.int 12))) (.int 0)))))
abbrev rK:=JD::XQ::JE::XN::jc
abbrev XS:=iQ::JF
abbrev aAM:E:=cmp .lss (fn 9 (pr (fn 1 (pr Z0 (.int 0))) (.int 12))) (.ar .add .i64 aX (.int 1))
abbrev XT:E:=.not aAM
abbrev XU:E:=.not (fn 33 (pr xM (fn 1 (pr (fn 1 (pr Z0 (.int 0))) (fn 6 (pr (fn 8 (pr aX (.int 12))) (.int 0)))))))
abbrev Cm:E:=fn 107 (pr Z0 (.ar .add .i64 aX (.int 1)))
abbrev XV:E:=cmp .lss (fn 7 (pr (fn 9 (pr (fn 1 (pr Z0 (.int 0))) (.int 12))) (.ar .add .i64 aX (.int 1)))) (fn 7 (pr (fn 9 (pr (fn 1 (pr Z0 (.int 0))) (.int 12))) aX))
abbrev aAN:E:=cmp .lss (fn 7 (pr (fn 9 (pr (fn 1 (pr Z0 (.int 0))) (.int 12))) (.ar .add .i64 aX (.int 1)))) (.int 0)
abbrev XW:E:=.not aAN
theorem aFH:nr Tryz.prog (fun tb=>rX vz (run Tryz.prog (tb.plus [] [] EI.l) 3000 (.call 10 []) .nil (tj 0 []) SX.one))=true:=by kernel_rfl
def ab3:Nl:=nc (aCw good (facts:=[]) all_nil (anns:=[]) (mX [] rfl) (nats:=EI.l) EI.h aFH) EI

def G0:=fa ((fn 101 (pr Z0 (.int 0))))<|fun ρ=>by
 rfl
def G1:=fb (Z2::Z3::Z6) xI<|ay fun ρ p0 p1 p2=>by
 have:=fun h0 h1=>@nh ρ _ _ (fn 9 (pr Z0 (.int 2))) h0 h1 (fn 1 _) (fn 1 (pr Z0 (fn 6 (pr (fn 8 (pr Z1 _)) _)))) rfl rfl
 simp only[aa]at *;grind
def G2:=fb (Z2::tZ::W4::Z6) xI<|aF fun ρ p0 p1 p2 p3=>by
 have:=fun h0 h1=>@nh ρ _ _ (fn 9 (pr Z0 (.int 2))) h0 h1 _ (fn 1 (pr Z0 (fn 6 (pr (fn 8 (pr Z1 _)) _)))) rfl rfl
 simp only[aa]at *;grind
def G3:=fb (Z2::tZ::B5::(.not Ca)::(.not Jw)::(.not Xk)::Z6) xI<|eZ fun ρ p0 p1 p2 p3 p4 p5 p6=>by
 have:=fun h0 h1=>@nh ρ _ _ (fn 9 (pr Z0 (.int 2))) h0 h1 (fn 1 _) (fn 1 (pr Z0 (fn 6 (pr (fn 8 (pr Z1 _)) _)))) rfl rfl
 simp only[aa]at *;grind
def G4:=fb Xy JB<|ay fun ρ p0 p1 p2=>by
 simp only[aa,ae]at *
 obtain⟨a,b,c⟩:=ab (E.I ρ Z1+1)
 omega
def G5:=fb (Z2::tZ::B5::Ca::Z6) xI<|bl fun ρ p0 p1 p2 p3 p4=>by
 have:=fun h0 h1=>@nh ρ _ _ (fn 9 (pr Z0 (.int 2))) h0 h1 _ (fn 1 (pr Z0 (fn 6 (pr (fn 8 (pr Z1 _)) _)))) rfl rfl
 simp only[aa]at *;grind
def G6:=fb (Z2::tZ::XJ::Z6) xI<|aF fun ρ p0 p1 p2 p3=>by
 have:=fun h0 h1=>@nh ρ _ _ (fn 9 (pr Z0 (.int 2))) h0 h1 (fn 1 _) (fn 1 (pr Z0 (fn 6 (pr (fn 8 (pr Z1 _)) _)))) rfl rfl
 simp only[aa]at *;grind
def G7:=fb [(.not Z2),XM] (.iff jA Z9)<|au fun ρ p0 p1=>by
 have:=fun h1=>@afc ρ _ _ (fn 9 (pr Z0 (.int 2))) p1 h1
 simp only[aa]at *;grind
def G8:=fb (Z2::Z6) (.not (cmp .lss (fn 9 (pr Z0 (.int 2))) (.ar .add .i64 Z1 (.int 1))))<|au fun ρ p0 p1=>by
 simp only[aa,ae]at *
 obtain⟨a,b,c⟩:=ab (E.I ρ Z1+1)
 omega
def G9:=fb (Z2::tZ::B5::(.not Ca)::(.not Jw)::Xk::XX) XY<|jh fun ρ p0 p1 p2 p3 p4 p5 p6 p7 p8 p9=>by
 have:=@bY ρ Z1 (.int 1)
 have:=fun h0 hm=>@Gc ρ _ (.ar .add .i64 Z1 (.int 1)) _ p7 h0 hm (fn 1 _) (fn 1 _) rfl rfl
 simp only[aa]at *;grind
def G10:=fb (Z2::tZ::B5::(.not Ca)::Jw::XX) XY<|fB fun ρ p0 p1 p2 p3 p4 p5 p6 p7 p8=>by
 have:=@bY ρ Z1 (.int 1)
 have:=fun h0 hm=>@Gc ρ _ (.ar .add .i64 Z1 (.int 1)) _ p6 h0 hm (fn 1 _) (fn 1 _) rfl rfl
 simp only[aa]at *;grind
def G11:=fb Xy (cmp .lss (fn 7 (pr (fn 9 (pr Z0 (.int 2))) (.ar .add .i64 Z1 (.int 1)))) (fn 7 (pr (fn 9 (pr Z0 (.int 2))) Z1)))<|ay fun ρ p0 p1 p2=>by
 simp only[aa,ae]at *
 obtain⟨a,b,c⟩:=ab (E.I ρ Z1+1)
 omega
def G12:=fb (Z2::Z6) (.not (cmp .lss (fn 7 (pr (fn 9 (pr Z0 (.int 2))) (.ar .add .i64 Z1 (.int 1)))) (.int 0)))<|au fun ρ p0 p1=>by
 simp only[aa,ae]at *
 obtain⟨a,b,c⟩:=ab (E.I ρ Z1+1)
 omega
def av:List Fa:=[G0,G1,G2,G3,G4,G5,G6,G7,G8,G9,G10,G11,G12]
theorem aGW:aV Tryz.prog (bz (aGQ)):=sc av (aBr) ab3 ([]) (by kernel_rfl) (by kernel_rfl)
def ab4:Nl:=nc aGW ab3
def Pj:=fb [XZ] lE<|ak fun ρ p0=>by
 have:=(@dW ρ cJ bZ Z0 ce cN Z1)
 simp only[aa]at *;grind
def G14:=fb [jB,kr,X2] lE<|ay fun ρ p0 p1 p2=>by
 have:=(@dW ρ cJ bZ Z0 ce cN Z1)
 simp only[aa]at *;grind
def G15:=fb [jB,kr,lF,X3] lE<|aF fun ρ p0 p1 p2 p3=>by
 have:=(@dW ρ cJ bZ Z0 ce cN Z1)
 simp only[aa]at *;grind
def G16:=fb [jB,kr,lF,nW,X4] lE<|bl fun ρ p0 p1 p2 p3 p4=>by
 have:=(@dW ρ cJ bZ Z0 ce cN Z1)
 simp only[aa]at *;grind
def G17:=fb (jB::kr::lF::nW::rL::ud::xO::gF::(.not JG)::ce::JI) JJ<|kH fun ρ p0 p1 p2 p3 p4 p5 p6 p7 p8 p9 am av az=>by
 have:=EO ρ (pr Z1 (.int 2))
 have:=(@dW ρ cJ bZ Z0 ce cN Z1)
 simp only[aa]at *;grind
def G18:=fb (jB::kr::lF::nW::rL::ud::xO::gF::(.not JG)::JI) JJ<|mO fun ρ p0 p1 p2 p3 p4 p5 p6 p7 p8 p9 am av=>by
 have:=EO ρ (pr Z1 (.int 2))
 have:=(@dW ρ cJ bZ Z0 ce cN Z1)
 simp only[aa]at *;grind
def G19:=fb (jB::kr::lF::nW::rL::ud::xO::gF::JG::X9) lE<|kG fun ρ p0 p1 p2 p3 p4 p5 p6 p7 p8 p9 am=>by
 have:=(@dW ρ cJ bZ Z0 ce cN Z1)
 simp only[aa]at *;grind
def G20:=fb [jB,kr,lF,nW,rL,ud,xO,Cn,ce] lE<|fB fun ρ p0 p1 p2 p3 p4 p5 p6 p7 p8=>by
 have:=(@dW ρ cJ bZ Z0 ce cN Z1)
 simp only[aa]at *;grind
def G21:=fb (jB::kr::lF::nW::rL::ud::xO::Cn::(.not ce)::JI) JJ<|mO fun ρ p0 p1 p2 p3 p4 p5 p6 p7 p8 p9 am av=>by
 have:=(@dW ρ cJ bZ Z0 ce cN Z1)
 simp only[aa]at *;grind
def G22:=fb [jB,kr,lF,nW,rL,ud,X6] lE<|eZ fun ρ p0 p1 p2 p3 p4 p5 p6=>by
 have:=(@dW ρ cJ bZ Z0 ce cN Z1)
 simp only[aa]at *;grind
def G23:=fb [jB,kr,lF,nW,rL,X5] lE<|cz fun ρ p0 p1 p2 p3 p4 p5=>by
 have:=(@dW ρ cJ bZ Z0 ce cN Z1)
 simp only[aa]at *;grind
def G24:=fb [jB,kr,lF,nW,X8] lE<|bl fun ρ p0 p1 p2 p3 p4=>by
 have:=(@dW ρ cJ bZ Z0 ce cN Z1)
 simp only[aa]at *;grind
def G25:=fb [jB,kr,lF,X7] lE<|aF fun ρ p0 p1 p2 p3=>by
 have:=(@dW ρ cJ bZ Z0 ce cN Z1)
 simp only[aa]at *;grind
def G26:=fb [jB,X1] lE<|au fun ρ p0 p1=>by
 have:=(@dW ρ cJ bZ Z0 ce cN Z1)
 simp only[aa]at *;grind
def az:List Fa:=[Pj,G14,G15,G16,G17,G18,G19,G20,G21,G22,G23,G24,G25,G26]
theorem aGX:aV Tryz.prog (bz (aGt)):=sc az ([]) ab4 ([]) (by kernel_rfl) (by kernel_rfl)
def ab5:Nl:=nc aGX ab4
def G27:=fa ((fn 103 (pr Z0 (pr jA (.int 0)))))<|fun ρ=>by
 rfl
def G28:=fb (nX::Ya::(.not ce)::Z6) (.iff Z5 Yb)<|aF fun ρ p0 p1 p2 p3=>by
 have:=fun h0 h1=>@Ge ρ _ _ (fn 9 (pr Z0 (.int 5))) _ h0 h1 (fn _ (pr (fn 1 _) (pr (fn 1 _) (pr (fn 1 _) (pr (fn 1 _) (pr (fn 1 (pr Z0 (fn 6 (pr (fn 8 (pr Z1 _)) _)))) jA)))))) rfl
 simp only[aa]at *;grind
def Pw:=fb Yc JB<|ay fun ρ p0 p1 p2=>by
 simp only[aa,ae]at *
 obtain⟨a,b,c⟩:=ab (E.I ρ Z1+1)
 omega
def G30:=fb [(.not nX),Yd] (.iff jA Yb)<|au fun ρ p0 p1=>by
 have:=fun h1=>@Gd ρ _ _ (fn 9 (pr Z0 (.int 5))) _ p1 h1
 simp only[aa]at *;grind
def PB:=fb (nX::Z6) (.not (cmp .lss (fn 9 (pr Z0 (.int 5))) (.ar .add .i64 Z1 (.int 1))))<|au fun ρ p0 p1=>by
 simp only[aa,ae]at *
 obtain⟨a,b,c⟩:=ab (E.I ρ Z1+1)
 omega
def G32:=fb (nX::Ya::ce::Yd::JK) (fn 103 (pr Z0 (pr jA (.ar .add .i64 Z1 (.int 1)))))<|cz fun ρ p0 p1 p2 p3 p4 p5=>by
 have:=@bY ρ Z1 (.int 1)
 have:=fun h0 hm=>@Gf ρ _ _ (.ar .add .i64 Z1 (.int 1)) _ p3 h0 hm (fn _ (pr (fn 1 _) (pr (fn 1 _) (pr (fn 1 _) (pr (fn 1 _) (pr (fn 1 _) _)))))) rfl
 simp only[aa]at *;grind
def PC:=fb Yc (cmp .lss (fn 7 (pr (fn 9 (pr Z0 (.int 5))) (.ar .add .i64 Z1 (.int 1)))) (fn 7 (pr (fn 9 (pr Z0 (.int 5))) Z1)))<|ay fun ρ p0 p1 p2=>by
 simp only[aa,ae]at *
 obtain⟨a,b,c⟩:=ab (E.I ρ Z1+1)
 omega
def PD:=fb (nX::Z6) (.not (cmp .lss (fn 7 (pr (fn 9 (pr Z0 (.int 5))) (.ar .add .i64 Z1 (.int 1)))) (.int 0)))<|au fun ρ p0 p1=>by
 simp only[aa,ae]at *
 obtain⟨a,b,c⟩:=ab (E.I ρ Z1+1)
 omega
def aD:List Fa:=[G27,G28,Pw,G30,PB,G32,PC,PD]
theorem aGY:aV Tryz.prog (bz (aeV 77 false)):=sc aD (Ys 77 false) ab5 ([]) (by kernel_rfl) (by kernel_rfl)
def ab6:Nl:=nc aGY ab5
def G35:=fa ((fn 103 (pr Z0 (pr pu (.int 0)))))<|fun ρ=>by
 rfl
def G36:=fb (nX::Ye::(.not ce)::Z6) (.iff Z5 WV)<|aF fun ρ p0 p1 p2 p3=>by
 have:=fun h0 h1=>@Ge ρ _ _ (fn 9 (pr Z0 (.int 5))) _ h0 h1 (fn _ (pr (fn 1 _) (pr (fn 1 _) (pr (fn 1 _) (pr (fn 1 _) (pr (fn 1 (pr Z0 (fn 6 (pr (fn 8 (pr Z1 _)) _)))) pu)))))) rfl
 simp only[aa]at *;grind
def G37:=fb [(.not nX),WW] (.iff jA WV)<|au fun ρ p0 p1=>by
 have:=fun h1=>@Gd ρ _ _ (fn 9 (pr Z0 (.int 5))) _ p1 h1
 simp only[aa]at *;grind
def G38:=fb (nX::Ye::ce::WW::JK) (fn 103 (pr Z0 (pr pu (.ar .add .i64 Z1 (.int 1)))))<|cz fun ρ p0 p1 p2 p3 p4 p5=>by
 have:=@bY ρ Z1 (.int 1)
 have:=fun h0 hm=>@Gf ρ _ _ (.ar .add .i64 Z1 (.int 1)) _ p3 h0 hm (fn _ (pr (fn 1 _) (pr (fn 1 _) (pr (fn 1 _) (pr (fn 1 _) (pr (fn 1 _) _)))))) rfl
 simp only[aa]at *;grind
def aJ:List Fa:=[G35,G36,Pw,G37,PB,G38,PC,PD]
theorem aGZ:aV Tryz.prog (bz (aeV 79 true)):=sc aJ (Ys 79 true) ab6 ([]) (by kernel_rfl) (by kernel_rfl)
def ab7:Nl:=nc aGZ ab6
def PE:=fa ((cmp .eql (fn 131 (pr Z0 (pr bZ (.int 0)))) (.int 0)))<|fun ρ=>by
 rfl
def G40:=fb (tY::WX::Z6) (.iff Z5 WY)<|ay fun ρ p0 p1 p2=>by
 have:=@aIr ρ Z0 bZ Z1
 simp only[aa]at *;grind
def G41:=fb W1 JB<|ay fun ρ p0 p1 p2=>by
 simp only[aa,ae]at *
 obtain⟨a,b,c⟩:=ab (E.I ρ Z1+1)
 omega
def G42:=fb [(.not tY),W2] (.iff jA WY)<|au fun ρ p0 p1=>by
 have:=@aIB ρ Z0 bZ Z1
 simp only[aa]at *;grind
def G43:=fb (tY::Z6) (.not (cmp .lss (fn 0 Z0) (.ar .add .i64 Z1 (.int 1))))<|au fun ρ p0 p1=>by
 simp only[aa,ae]at *
 obtain⟨a,b,c⟩:=ab (E.I ρ Z1+1)
 omega
def G44:=fb (tY::(.not WX)::W2::WZ) (cmp .eql (fn 131 (pr Z0 (pr bZ (.ar .add .i64 Z1 (.int 1))))) (.int 0))<|bl fun ρ p0 p1 p2 p3 p4=>by
 have:=@bY ρ Z1 (.int 1)
 have:=@NI ρ Z0 bZ Z1 (.ar .add .i64 Z1 (.int 1))
 simp only[aa]at *;grind
def G45:=fb W1 (cmp .lss (fn 7 (pr (fn 0 Z0) (.ar .add .i64 Z1 (.int 1)))) (fn 7 (pr (fn 0 Z0) Z1)))<|ay fun ρ p0 p1 p2=>by
 simp only[aa,ae]at *
 obtain⟨a,b,c⟩:=ab (E.I ρ Z1+1)
 omega
def G46:=fb (tY::Z6) (.not (cmp .lss (fn 7 (pr (fn 0 Z0) (.ar .add .i64 Z1 (.int 1)))) (.int 0)))<|au fun ρ p0 p1=>by
 simp only[aa,ae]at *
 obtain⟨a,b,c⟩:=ab (E.I ρ Z1+1)
 omega
def aL:List Fa:=[PE,G40,G41,G42,G43,G44,G45,G46]
theorem aG0:aV Tryz.prog (bz (aGB)):=sc aL (aBf) ab7 ([]) (by kernel_rfl) (by kernel_rfl)
def ab8:Nl:=nc aG0 ab7
def PI:=fb [gF,W3] gD<|au fun ρ p0 p1=>by
 have:=@cW ρ Z0 bZ cN cJ Z1 ce eW eT bq
 simp only[aa]at *;grind
def PJ:=fb [gF,Z5,W5] gD<|ay fun ρ p0 p1 p2=>by
 have:=@cW ρ Z0 bZ cN cJ Z1 ce eW eT bq
 simp only[aa]at *;grind
def PK:=fb [gF,Z5,lB,W7] gD<|aF fun ρ p0 p1 p2 p3=>by
 have:=@cW ρ Z0 bZ cN cJ Z1 ce eW eT bq
 simp only[aa]at *;grind
def PL:=fb [gF,Z5,lB,mw,W8] gD<|bl fun ρ p0 p1 p2 p3 p4=>by
 have:=@cW ρ Z0 bZ cN cJ Z1 ce eW eT bq
 simp only[aa]at *;grind
def PM:=fb [gF,Z5,lB,mw,rF,Xa] gD<|cz fun ρ p0 p1 p2 p3 p4 p5=>by
 have:=@cW ρ Z0 bZ cN cJ Z1 ce eW eT bq
 simp only[aa]at *;grind
def G52:=fb [gF,Z5,lB,mw,rF,xJ,Xc] gD<|eZ fun ρ p0 p1 p2 p3 p4 p5 p6=>by
 have:=@cW ρ Z0 bZ cN cJ Z1 ce eW eT bq
 simp only[aa]at *;grind
def G53:=fb (gF::Z5::lB::mw::rF::xJ::B6::B7::Ju::rG::(.not B8)::Jv::(.not B9)::Xh) Xi<|DS fun ρ p0 p1 p2 p3 p4 p5 p6 p7 p8 p9 am av az aD aJ aL aU bg bn=>by
 have:=@cW ρ Z0 bZ cN cJ Z1 ce eW eT bq
 simp only[aa]at *;grind
def G54:=fb (gF::Z5::lB::mw::rF::xJ::B6::B7::Ju::rG::(.not B8)::Jv::B9::Xh) (.iff pu B4)<|DS fun ρ p0 p1 p2 p3 p4 p5 p6 p7 p8 p9 am av az aD aJ aL aU bg bn=>by
 have:=@cW ρ Z0 bZ cN cJ Z1 ce eW eT bq
 simp only[aa]at *;grind
def G55:=fb [rG,(.not B8),(.not Jv)] gD<|ay fun ρ p0 p1 p2=>by
 have:=@cW ρ Z0 bZ cN cJ Z1 ce eW eT bq
 simp only[aa]at *;grind
def PN:=fb [rG,B8] gD<|au fun ρ p0 p1=>by
 have:=@cW ρ Z0 bZ cN cJ Z1 ce eW eT bq
 simp only[aa]at *;grind
def PO:=fb [rG,Xf] gD<|au fun ρ p0 p1=>by
 have:=@cW ρ Z0 bZ cN cJ Z1 ce eW eT bq
 simp only[aa]at *;grind
def PP:=fb [Xd] gD<|ak fun ρ p0=>by
 have:=@cW ρ Z0 bZ cN cJ Z1 ce eW eT bq
 simp only[aa]at *;grind
def G59:=fb [B6,B7,(.not Ju)] gD<|ay fun ρ p0 p1 p2=>by
 have:=@cW ρ Z0 bZ cN cJ Z1 ce eW eT bq
 simp only[aa]at *;grind
def G60:=fb [B6,(.not B7)] gD<|au fun ρ p0 p1=>by
 have:=@cW ρ Z0 bZ cN cJ Z1 ce eW eT bq
 simp only[aa]at *;grind
def G61:=fb (gF::Z5::lB::mw::rF::xJ::Jt::rG::(.not B9)::Xj) Xi<|pP fun ρ p0 p1 p2 p3 p4 p5 p6 p7 p8 p9 am av az aD aJ aL=>by
 have:=@cW ρ Z0 bZ cN cJ Z1 ce eW eT bq
 simp only[aa]at *;grind
def G62:=fb (gF::Z5::lB::mw::rF::xJ::Jt::rG::B9::Xj) (.iff pu B4)<|pP fun ρ p0 p1 p2 p3 p4 p5 p6 p7 p8 p9 am av az aD aJ aL=>by
 have:=@cW ρ Z0 bZ cN cJ Z1 ce eW eT bq
 simp only[aa]at *;grind
def PR:=fb [gF,Z5,lB,mw,rF,Xb] gD<|cz fun ρ p0 p1 p2 p3 p4 p5=>by
 have:=@cW ρ Z0 bZ cN cJ Z1 ce eW eT bq
 simp only[aa]at *;grind
def P0:=fb [gF,Z5,lB,mw,W9] gD<|bl fun ρ p0 p1 p2 p3 p4=>by
 have:=@cW ρ Z0 bZ cN cJ Z1 ce eW eT bq
 simp only[aa]at *;grind
def P8:=fb [gF,Z5,lB,JH] gD<|aF fun ρ p0 p1 p2 p3=>by
 have:=@cW ρ Z0 bZ cN cJ Z1 ce eW eT bq
 simp only[aa]at *;grind
def P9:=fb [gF,Z5,W6] gD<|ay fun ρ p0 p1 p2=>by
 have:=@cW ρ Z0 bZ cN cJ Z1 ce eW eT bq
 simp only[aa]at *;grind
def Qa:=fb [gF,Z4] gD<|au fun ρ p0 p1=>by
 have:=@cW ρ Z0 bZ cN cJ Z1 ce eW eT bq
 simp only[aa]at *;grind
def Qb:=fb [Cn] gD<|ak fun ρ p0=>by
 have:=@cW ρ Z0 bZ cN cJ Z1 ce eW eT bq
 simp only[aa]at *;grind
def aU:List Fa:=[PI,PJ,PK,PL,PM,G52,G53,G54,G55,PN,PO,PP,G59,G60,G61,G62,PR,P0,P8,P9,Qa,Qb]
theorem aG1:aV Tryz.prog (bz (aeY 82)):=sc aU ([]) ab8 ([]) (by kernel_rfl) (by kernel_rfl)
def ab9:Nl:=nc aG1 ab8
def G69:=fa ((fn 104 (pr (fn 10 (.int 0)) (pr Z0 (pr (.int 0) Jx)))))<|fun ρ=>by
 rfl
def G70:=fb jc (.not (cmp .lss (.int 40) (fn 0 (fn 1 (pr Z0 (.int 6))))))<|ak fun ρ p0=>by
 have:=ao p0
 simp only[aa]at *;omega
def G71:=fb jc (.not (cmp .lss (.int 40) (fn 0 (fn 1 (pr Z0 (.int 7))))))<|ak fun ρ p0=>by
 have:=ao p0
 simp only[aa]at *;omega
def Qe:=fb jc (.not (cmp .lss (.int 40) (fn 0 (fn 1 (pr Z0 (.int 8))))))<|ak fun ρ p0=>by
 have:=ao p0
 simp only[aa]at *;omega
def G73:=fb jc (.not (cmp .lss (.int 40) (fn 0 (fn 1 (pr Z0 (.int 9))))))<|ak fun ρ p0=>by
 have:=ao p0
 simp only[aa]at *;omega
def Qg:=fb [nT] Xl<|ak fun ρ p0=>by
 simp only[aa,ae]at *
 obtain⟨a,b,c⟩:=ab (E.I ρ bq+1)
 omega
def G75:=fb jc (.not (cmp .lss (.int 40) (fn 0 (fn 1 (pr Z0 (.int 20))))))<|ak fun ρ p0=>by
 have:=ao p0
 simp only[aa]at *;omega
def G76:=fb jc (.not (cmp .lss (.int 40) (fn 0 (fn 1 (pr Z0 (.int 21))))))<|ak fun ρ p0=>by
 have:=ao p0
 simp only[aa]at *;omega
def Qj:=fb jc (.not (cmp .lss (.int 40) (fn 0 (fn 1 (pr Z0 (.int 22))))))<|ak fun ρ p0=>by
 have:=ao p0
 simp only[aa]at *;omega
def G78:=fb jc (.not (cmp .lss (.int 40) (fn 0 (fn 1 (pr Z0 (.int 23))))))<|ak fun ρ p0=>by
 have:=ao p0
 simp only[aa]at *;omega
def Qk:=fb [lC] Xl<|ak fun ρ p0=>by
 simp only[aa,ae]at *
 obtain⟨a,b,c⟩:=ab (E.I ρ bq+1)
 omega
def ny:=fb jc (.not (cmp .lss (.int 20) (fn 9 (pr (fn 1 (pr Z0 (.int 29))) (.int 5)))))<|ak fun ρ p0=>by
 have:=ao p0
 simp only[aa]at *;omega
def G81:=fb [Cb,iP,nT] (fn 109 (pr (fn 1 (pr Z0 (.int 6))) nU))<|ay fun ρ p0 p1 p2=>by
 obtain⟨g0,g1⟩:E.I ρ bq=(0)/\E.I ρ dw=(0):=by
  simp only[aa]at *;omega
 exact i5 0 0 6 (by decide) (by rfl) g0 g1
def G82:=fb [Cc,iP,nT] (fn 109 (pr (fn 1 (pr Z0 (.int 7))) nU))<|ay fun ρ p0 p1 p2=>by
 obtain⟨g0,g1⟩:E.I ρ bq=(0)/\E.I ρ dw=(1):=by
  simp only[aa]at *;omega
 exact i5 0 1 7 (by decide) (by rfl) g0 g1
def G83:=fb [Cd,iP,nT] (fn 109 (pr (fn 1 (pr Z0 (.int 8))) nU))<|ay fun ρ p0 p1 p2=>by
 obtain⟨g0,g1⟩:E.I ρ bq=(0)/\E.I ρ dw=(2):=by
  simp only[aa]at *;omega
 exact i5 0 2 8 (by decide) (by rfl) g0 g1
def G84:=fb ((.not Cb)::(.not Cc)::(.not Cd)::iP::Xn) (fn 109 (pr (fn 1 (pr Z0 (.int 9))) nU))<|eZ fun ρ p0 p1 p2 p3 p4 p5 p6=>by
 obtain⟨g0,g1⟩:E.I ρ bq=(0)/\E.I ρ dw=(3):=by
  simp only[aa]at *;omega
 exact i5 0 3 9 (by decide) (by rfl) g0 g1
def Ql:=fb [nT] Xo<|ak fun ρ p0=>by
 simp only[aa,ae]at *
 obtain⟨a,b,c⟩:=ab (E.I ρ bq+1)
 omega
def G86:=fb (lC::Cb::jc) (fn 109 (pr (fn 1 (pr Z0 (.int 20))) nU))<|ay fun ρ p0 p1 p2=>by
 obtain⟨g0,g1⟩:E.I ρ bq=(1)/\E.I ρ dw=(0):=by
  simp only[aa]at *;omega
 exact i5 1 0 20 (by decide) (by rfl) g0 g1
def G87:=fb (lC::Cc::jc) (fn 109 (pr (fn 1 (pr Z0 (.int 21))) nU))<|ay fun ρ p0 p1 p2=>by
 obtain⟨g0,g1⟩:E.I ρ bq=(1)/\E.I ρ dw=(1):=by
  simp only[aa]at *;omega
 exact i5 1 1 21 (by decide) (by rfl) g0 g1
def G88:=fb (lC::Cd::jc) (fn 109 (pr (fn 1 (pr Z0 (.int 22))) nU))<|ay fun ρ p0 p1 p2=>by
 obtain⟨g0,g1⟩:E.I ρ bq=(1)/\E.I ρ dw=(2):=by
  simp only[aa]at *;omega
 exact i5 1 2 22 (by decide) (by rfl) g0 g1
def G89:=fb (lC::(.not Cb)::(.not Cc)::(.not Cd)::iP::rH) (fn 109 (pr (fn 1 (pr Z0 (.int 23))) nU))<|eZ fun ρ p0 p1 p2 p3 p4 p5 p6=>by
 obtain⟨g0,g1⟩:E.I ρ bq=(1)/\E.I ρ dw=(3):=by
  simp only[aa]at *;omega
 exact i5 1 3 23 (by decide) (by rfl) g0 g1
def Qm:=fb [lC] Xo<|ak fun ρ p0=>by
 simp only[aa,ae]at *
 obtain⟨a,b,c⟩:=ab (E.I ρ bq+1)
 omega
def G91:=fb [(.not (cmp .lss bq (.int 2))),iP,(fn 104 (pr (var 9) (pr Z0 (pr bq Jx)))),(.not (cmp .lss (.int 2) bq))] (fn 105 (pr (var 9) (pr Z0 (.int 0))))<|aF fun ρ p0 p1 p2 p3=>by
 have g0:E.I ρ bq=(2):=by
  simp only[aa]at *;omega
 have g1:E.I ρ _=E.I ρ (.int 0):=rfl;have g2:E.I ρ _=E.I ρ (.int 0):=rfl;have g3:E.I ρ _=E.I ρ (.int 0):=rfl;exact aIm p2 g0 g1 g2 g3
def G92:=fb (rJ::(fn 33 (pr t7 (fn 1 (pr jz eU))))::xK::xL::Xp) lD<|dO fun ρ p0 p1 p2 p3 p4 p5 p6 p7=>by
 have:=@Gg ρ _ _ _ (fn 6 (pr eU (.int 1))) _ _ _ p2 p3
 simp only[aa]at *;grind
def G93:=fb Xr (.not (cmp .lss (.ar .add .i64 eU (.int 1)) (.int 0)))<|ay fun ρ p0 p1 p2=>by
 simp only[aa,ae]at *
 obtain⟨a,b,c⟩:=ab (E.I ρ eU+1)
 omega
def G94:=fb rH (.not (cmp .lss (.ar .add .i64 dw (.int 1)) (.int 0)))<|au fun ρ p0 p1=>by
 simp only[aa,ae]at *
 obtain⟨a,b,c⟩:=ab (E.I ρ dw+1)
 omega
def G95:=fb (lC::rJ::(fn 33 (pr t7 (fn 1 (pr jz eU))))::xK::xL::Xs) lD<|dO fun ρ p0 p1 p2 p3 p4 p5 p6 p7=>by
 have:=@Gg ρ _ _ _ (fn 6 (pr eU (.int 1))) _ _ _ p3 p4
 simp only[aa]at *;grind
def G96:=fb ((.not Ce)::iP::nT::Xu) Xv<|bl fun ρ p0 p1 p2 p3 p4=>by
 obtain⟨g0,g1,g2,g3,g4⟩:(0)<=E.I ρ bq/\(0)<=E.I ρ dw/\(0)<=E.I ρ (.ar .add .i64 bq (.int 1))/\(0)<=(0)/\E.I ρ (fn 6 (pr (fn 8 (pr (.ar .add .i64 bq (.int 1)) (.int 4))) (.int 0)))=E.I ρ (fn 6 (pr (fn 8 (pr bq (.int 4))) dw)):=by
  simp only[aa,ae]at *
  obtain⟨a,b,c⟩:=ab (E.I ρ bq+1)
  omega
 have g5:E.I ρ _=E.I ρ (.int 0):=rfl;exact afd p3 (by omega) (by omega) (by omega) (by simp_all) g4 g5
def G97:=fb (lC::(.not Ce)::iP::Xu) Xv<|bl fun ρ p0 p1 p2 p3 p4=>by
 obtain⟨g0,g1,g2,g3,g4⟩:(0)<=E.I ρ bq/\(0)<=E.I ρ dw/\(0)<=E.I ρ (.ar .add .i64 bq (.int 1))/\(0)<=(0)/\E.I ρ (fn 6 (pr (fn 8 (pr (.ar .add .i64 bq (.int 1)) (.int 4))) (.int 0)))=E.I ρ (fn 6 (pr (fn 8 (pr bq (.int 4))) dw)):=by
  simp only[aa,ae]at *
  obtain⟨a,b,c⟩:=ab (E.I ρ bq+1)
  omega
 have g5:E.I ρ _=E.I ρ (.int 0):=rfl;exact afd p3 (by omega) (by omega) (by omega) (by simp_all) g4 g5
def G98:=fa ((fn 106 (pr (fn 10 (.int 0)) (pr Z0 (.int 0)))))<|fun ρ=>by
 rfl
def G99:=fb Xw (.not (cmp .lss (fn 0 jz) (.ar .add .i64 eU (.int 1))))<|au fun ρ p0 p1=>by
 simp only[aa,ae]at *
 obtain⟨a,b,c⟩:=ab (E.I ρ eU+1)
 omega
def agt:=fb rH (.not (cmp .lss (.int 4) (.ar .add .i64 dw (.int 1))))<|au fun ρ p0 p1=>by
 simp only[aa,ae]at *
 obtain⟨a,b,c⟩:=ab (E.I ρ dw+1)
 omega
def Pf:=fb [nT] Xx<|ak fun ρ p0=>by
 simp only[aa,ae]at *
 obtain⟨a,b,c⟩:=ab (E.I ρ bq+1)
 omega
def Pg:=fb [lC] Xx<|ak fun ρ p0=>by
 simp only[aa,ae]at *
 obtain⟨a,b,c⟩:=ab (E.I ρ bq+1)
 omega
def agu:=fb (t8::JA::(fn 33 (pr ua (fn 1 (pr (fn 1 (pr Z0 (.int 29))) (fn 6 (pr (fn 8 (pr dL (.int 5))) (.int 1)))))))::XD) lD<|cz fun ρ p0 p1 p2 p3 p4 p5=>by
 have:=fun a b hn=>@Af ρ (fn 6 (pr dL (.int 1))) _ _ _ _ p4 p3 a b hn _ _ _ _ rfl rfl rfl rfl
 simp only[aa]at *;grind
def agv:=fb Cg (.not (cmp .lss (.ar .add .i64 dL (.int 1)) (.int 0)))<|ay fun ρ p0 p1 p2=>by
 have:=ao p0
 simp only[aa,ae]at *
 obtain⟨a,b,c⟩:=ab (E.I ρ dL+1)
 omega
def AJ:=fb jc (.not (cmp .lss (.int 30) (fn 9 (pr (fn 1 (pr Z0 (.int 0))) (.int 12)))))<|ak fun ρ p0=>by
 have:=ao p0
 simp only[aa]at *;omega
def agw:=fb (rJ::XE::xK::xL::Jz::Xp) XF<|fB fun ρ p0 p1 p2 p3 p4 p5 p6 p7 p8=>by
 have:=@bY ρ eU (.int 1)
 have:=@Gg ρ _ _ _ (.ar .add .i64 eU (.int 1)) _ _ _ p2 p3
 simp only[aa]at *;grind
def agx:=fb ((.not rJ)::iP::xK::xL::(.not (cmp .lss (fn 0 jz) eU))::rH) (fn 104 (pr t7 (pr Z0 (pr bq (pr (.ar .add .i64 dw (.int 1)) (.int 0))))))<|eZ fun ρ p0 p1 p2 p3 p4 p5 p6=>by
 obtain⟨g0,g1,g2⟩:(0)<=E.I ρ dw/\E.I ρ eU=E.I ρ (fn 0 jz)/\E.I ρ (.ar .add .i64 dw (.int 1))=E.I ρ (fn 6 (pr dw (.int 1))):=by
  simp only[aa,ae]at *
  obtain⟨a,b,c⟩:=ab (E.I ρ dw+1)
  omega
 have g3:E.I ρ _=E.I ρ (.int 0):=rfl;exact aIk p2 p3 (by omega) g1 g2 g3
def agy:=fb (lC::rJ::XE::xK::xL::Jz::Xs) XF<|fB fun ρ p0 p1 p2 p3 p4 p5 p6 p7 p8=>by
 have:=@bY ρ eU (.int 1)
 have:=@Gg ρ _ _ _ (.ar .add .i64 eU (.int 1)) _ _ _ p3 p4
 simp only[aa]at *;grind
def Ph:=fb [nT] XG<|ak fun ρ p0=>by
 simp only[aa,ae]at *
 obtain⟨a,b,c⟩:=ab (E.I ρ bq+1)
 omega
def Pi:=fb [lC] XG<|ak fun ρ p0=>by
 simp only[aa,ae]at *
 obtain⟨a,b,c⟩:=ab (E.I ρ bq+1)
 omega
def agz:=fb Cg (.not (cmp .lss (fn 9 (pr (fn 1 (pr Z0 (.int 29))) (.int 5))) (.ar .add .i64 dL (.int 1))))<|ay fun ρ p0 p1 p2=>by
 simp only[aa,ae]at *
 obtain⟨a,b,c⟩:=ab (E.I ρ dL+1)
 omega
def agA:=fb ((.not t8)::iP::XB::XH) (fn 105 (pr ua Ch))<|aF fun ρ p0 p1 p2 p3=>by
 have g0:E.I ρ (fn 9 (pr (fn 1 (pr Z0 (.int 29))) (.int 5)))=E.I ρ dL:=by
  simp only[aa]at *;omega
 grind[aIl]
def agB:=fb Xr (cmp .lss (fn 7 (pr (fn 0 jz) (.ar .add .i64 eU (.int 1)))) (fn 7 (pr (fn 0 jz) eU)))<|ay fun ρ p0 p1 p2=>by
 simp only[aa,ae]at *
 obtain⟨a,b,c⟩:=ab (E.I ρ eU+1)
 omega
def agC:=fb rH (cmp .lss (fn 7 (pr (.int 4) (.ar .add .i64 dw (.int 1)))) (fn 7 (pr (.int 4) dw)))<|au fun ρ p0 p1=>by
 simp only[aa,ae]at *
 obtain⟨a,b,c⟩:=ab (E.I ρ dw+1)
 omega
def agD:=fb XK (fn 105 (pr (fn 34 (pr ua (pr (fn 1 (pr (fn 1 (pr Z0 (.int 29))) (fn 6 (pr (fn 8 (pr dL (.int 5))) (.int 1))))) (fn 1 (pr (fn 1 (pr Z0 (.int 29))) (fn 6 (pr (fn 8 (pr dL (.int 5))) (.int 0)))))))) Ci))<|eZ fun ρ p0 p1 p2 p3 p4 p5 p6=>by
 have:=ao p3
 have:=@bY ρ dL (.int 1)
 have:=fun a b hn=>@Af ρ (.ar .add .i64 dL (.int 1)) _ _ _ _ p5 p4 a b hn _ _ _ _ rfl rfl rfl rfl
 simp only[aa]at *;grind
def agE:=fb XL (fn 105 (pr ua Ci))<|cz fun ρ p0 p1 p2 p3 p4 p5=>by
 have:=ao p2
 have:=@bY ρ dL (.int 1)
 have:=fun a b hn=>@Af ρ (.ar .add .i64 dL (.int 1)) _ _ _ _ p4 p3 a b hn _ _ _ _ rfl rfl rfl rfl
 simp only[aa]at *;grind
def agF:=fb ((.not t8)::iP::XA::XH) (fn 106 (pr Cf Ch))<|aF fun ρ p0 p1 p2 p3=>by
 have g0:E.I ρ (fn 9 (pr (fn 1 (pr Z0 (.int 29))) (.int 5)))=E.I ρ dL:=by
  simp only[aa]at *;omega
 grind[aIn]
def agG:=fb Xw (.not (cmp .lss (fn 7 (pr (fn 0 jz) (.ar .add .i64 eU (.int 1)))) (.int 0)))<|au fun ρ p0 p1=>by
 simp only[aa,ae]at *
 obtain⟨a,b,c⟩:=ab (E.I ρ eU+1)
 omega
def agH:=fb rH (.not (cmp .lss (fn 7 (pr (.int 4) (.ar .add .i64 dw (.int 1)))) (.int 0)))<|au fun ρ p0 p1=>by
 simp only[aa,ae]at *
 obtain⟨a,b,c⟩:=ab (E.I ρ dw+1)
 omega
def agI:=fb XK (fn 106 (pr (fn 34 (pr Cf (pr (fn 1 (pr (fn 1 (pr Z0 (.int 29))) (fn 6 (pr (fn 8 (pr dL (.int 5))) (.int 1))))) (fn 1 (pr (fn 1 (pr Z0 (.int 29))) (fn 6 (pr (fn 8 (pr dL (.int 5))) (.int 2)))))))) Ci))<|eZ fun ρ p0 p1 p2 p3 p4 p5 p6=>by
 have:=ao p3
 have:=@bY ρ dL (.int 1)
 have:=fun a b hn=>@Af ρ (.ar .add .i64 dL (.int 1)) _ _ _ _ p5 p4 a b hn _ _ _ _ rfl rfl rfl rfl
 simp only[aa]at *;grind
def agJ:=fb XL (fn 106 (pr Cf Ci))<|cz fun ρ p0 p1 p2 p3 p4 p5=>by
 have:=ao p2
 have:=@bY ρ dL (.int 1)
 have:=fun a b hn=>@Af ρ (.ar .add .i64 dL (.int 1)) _ _ _ _ p4 p3 a b hn _ _ _ _ rfl rfl rfl rfl
 simp only[aa]at *;grind
def agK:=fa ((fn 107 (pr Z0 (.int 0))))<|fun ρ=>by
 rfl
def agL:=fb Cg (cmp .lss (fn 7 (pr (fn 9 (pr (fn 1 (pr Z0 (.int 29))) (.int 5))) (.ar .add .i64 dL (.int 1)))) (fn 7 (pr (fn 9 (pr (fn 1 (pr Z0 (.int 29))) (.int 5))) dL)))<|ay fun ρ p0 p1 p2=>by
 have:=ao p0
 simp only[aa,ae]at *
 obtain⟨a,b,c⟩:=ab (E.I ρ dL+1)
 omega
def agM:=fb JC (.not (cmp .lss (.ar .sub .i64 aX (.int 1)) (.int 0)))<|ay fun ρ p0 p1 p2=>by
 have:=ao p0
 simp only[aa,ae]at *
 obtain⟨a,b,c⟩:=ab ((E.I ρ aX)-(1))
 omega
def agN:=fb [(.not iQ),JD,JE,(.not (cmp .lss (fn 9 (pr (fn 1 (pr Z0 (.int 0))) (.int 12))) aX))] (.iff (cmp .eql (fn 0 mv) (fn 9 (pr (fn 1 (pr Z0 (.int 0))) (.int 12)))) (fn 108 Z0))<|aF fun ρ p0 p1 p2 p3=>by
 have:=@aJy ρ _ _ _ p2 p1
 simp only[aa]at *;grind
def agO:=fb Cg (.not (cmp .lss (fn 7 (pr (fn 9 (pr (fn 1 (pr Z0 (.int 29))) (.int 5))) (.ar .add .i64 dL (.int 1)))) (.int 0)))<|ay fun ρ p0 p1 p2=>by
 simp only[aa,ae]at *
 obtain⟨a,b,c⟩:=ab (E.I ρ dL+1)
 omega
def agP:=fb Cj (cmp .lss (.ar .sub .i64 aX (.int 1)) (fn 9 (pr (fn 1 (pr Z0 (.int 0))) (.int 12))))<|au fun ρ p0 p1=>by
 simp only[aa,ae]at *
 obtain⟨a,b,c⟩:=ab ((E.I ρ aX)-(1))
 omega
def agQ:=fb JF XP<|au fun ρ p0 p1=>by
 simp only[aa,ae]at *
 obtain⟨a,b,c⟩:=ab (E.I ρ aX+1)
 omega
def agR:=fb (iQ::pt::nV::ub::(fn 33 (pr mv (fn 1 (pr (fn 1 (pr Z0 (.int 0))) (fn 6 (pr (fn 8 (pr aX (.int 12))) (.int 0)))))))::(fn 33 (pr xM (fn 1 (pr (fn 1 (pr Z0 (.int 0))) (fn 6 (pr (fn 8 (pr aX (.int 12))) (.int 0)))))))::(.not Ck)::xN) lD<|kG fun ρ p0 p1 p2 p3 p4 p5 p6 p7 p8 p9 am=>by
 have:=@kY ρ _ (fn 6 (pr aX (.int 1))) _ _ _ p9 p8 p7 (.ar .sub .i64 aX (.int 1)) _ _ _ _ _ _ _ _ _ rfl rfl rfl rfl rfl rfl rfl rfl rfl
 simp only[aa]at *;grind
def agS:=fb (iQ::ub::(.not uc)::xN) lD<|eZ fun ρ p0 p1 p2 p3 p4 p5 p6=>by
 have:=@kY ρ _ (fn 6 (pr aX (.int 1))) _ _ _ p5 p4 p3 (.ar .sub .i64 aX (.int 1)) _ _ _ _ _ _ _ _ _ rfl rfl rfl rfl rfl rfl rfl rfl rfl
 simp only[aa]at *;grind
def agT:=fb (iQ::ub::XR::xN) lD<|eZ fun ρ p0 p1 p2 p3 p4 p5 p6=>by
 have:=@kY ρ _ (fn 6 (pr aX (.int 1))) _ _ _ p5 p4 p3 (.ar .sub .i64 aX (.int 1)) _ _ _ _ _ _ _ _ _ rfl rfl rfl rfl rfl rfl rfl rfl rfl
 simp only[aa]at *;grind
def agU:=fb JC XP<|ay fun ρ p0 p1 p2=>by
 have:=ao p0
 simp only[aa,ae]at *
 obtain⟨a,b,c⟩:=ab (E.I ρ aX+1)
 omega
def agV:=fb (iQ::pt::nV::pq::Cl::(fn 33 (pr mv (fn 1 (pr (fn 1 (pr Z0 (.int 0))) (fn 6 (pr (fn 8 (pr aX (.int 12))) (.int 0)))))))::(fn 33 (pr xM (fn 1 (pr (fn 1 (pr Z0 (.int 0))) (fn 6 (pr (fn 8 (pr aX (.int 12))) (.int 0)))))))::(.not Ck)::rK) lD<|kH fun ρ p0 p1 p2 p3 p4 p5 p6 p7 p8 p9 am av az=>by
 have:=ao az
 have:=@ma ρ aX (.int 1)
 have:=@kY ρ _ (fn 6 (pr aX (.int 1))) _ _ _ am p9 p8 (.ar .sub .i64 aX (.int 1)) _ _ _ _ _ _ _ _ _ rfl rfl rfl rfl rfl rfl rfl rfl rfl
 simp only[aa]at *;grind
def agW:=fb (iQ::pq::(.not uc)::rK) lD<|dO fun ρ p0 p1 p2 p3 p4 p5 p6 p7=>by
 have:=ao p7
 have:=@ma ρ aX (.int 1)
 have:=@kY ρ _ (fn 6 (pr aX (.int 1))) _ _ _ p5 p4 p3 (.ar .sub .i64 aX (.int 1)) _ _ _ _ _ _ _ _ _ rfl rfl rfl rfl rfl rfl rfl rfl rfl
 simp only[aa]at *;grind
def agX:=fb (iQ::pq::XR::rK) lD<|dO fun ρ p0 p1 p2 p3 p4 p5 p6 p7=>by
 have:=ao p7
 have:=@ma ρ aX (.int 1)
 have:=@kY ρ _ (fn 6 (pr aX (.int 1))) _ _ _ p5 p4 p3 (.ar .sub .i64 aX (.int 1)) _ _ _ _ _ _ _ _ _ rfl rfl rfl rfl rfl rfl rfl rfl rfl
 simp only[aa]at *;grind
def agY:=fb (iQ::pt::nV::pq::(.not Cl)::rK) lD<|jh fun ρ p0 p1 p2 p3 p4 p5 p6 p7 p8 p9=>by
 have:=ao p9
 have:=@ma ρ aX (.int 1)
 have:=@kY ρ _ (fn 6 (pr aX (.int 1))) _ _ _ p7 p6 p5 (.ar .sub .i64 aX (.int 1)) _ _ _ _ _ _ _ _ _ rfl rfl rfl rfl rfl rfl rfl rfl rfl
 simp only[aa]at *;grind
def agZ:=fb (iQ::pt::(.not nV)::rK) lD<|dO fun ρ p0 p1 p2 p3 p4 p5 p6 p7=>by
 have:=ao p7
 have:=@ma ρ aX (.int 1)
 have:=@kY ρ _ (fn 6 (pr aX (.int 1))) _ _ _ p5 p4 p3 (.ar .sub .i64 aX (.int 1)) _ _ _ _ _ _ _ _ _ rfl rfl rfl rfl rfl rfl rfl rfl rfl
 simp only[aa]at *;grind
def ag0:=fb XS XT<|ay fun ρ p0 p1 p2=>by
 simp only[aa,ae]at *
 obtain⟨a,b,c⟩:=ab (E.I ρ aX+1)
 omega
def ag1:=fb Cj XT<|au fun ρ p0 p1=>by
 simp only[aa,ae]at *
 obtain⟨a,b,c⟩:=ab (E.I ρ aX+1)
 omega
def ag2:=fb (iQ::pt::nV::ub::(fn 33 (pr mv (fn 1 (pr (fn 1 (pr Z0 (.int 0))) (fn 6 (pr (fn 8 (pr aX (.int 12))) (.int 0)))))))::uc::XU::xN) Cm<|kG fun ρ p0 p1 p2 p3 p4 p5 p6 p7 p8 p9 am=>by
 have:=@bY ρ aX (.int 1)
 have:=@kY ρ _ (.ar .add .i64 aX (.int 1)) _ _ _ p9 p8 p7 (.ar .sub .i64 aX (.int 1)) _ _ _ _ _ _ _ _ _ rfl rfl rfl rfl rfl rfl rfl rfl rfl
 simp only[aa]at *;grind
def ag3:=fb (iQ::pt::nV::ub::(fn 33 (pr mv (fn 1 (pr (fn 1 (pr Z0 (.int 0))) (fn 6 (pr (fn 8 (pr aX (.int 12))) (.int 0)))))))::uc::Ck::xN) Cm<|kG fun ρ p0 p1 p2 p3 p4 p5 p6 p7 p8 p9 am=>by
 have:=@bY ρ aX (.int 1)
 have:=@kY ρ _ (.ar .add .i64 aX (.int 1)) _ _ _ p9 p8 p7 (.ar .sub .i64 aX (.int 1)) _ _ _ _ _ _ _ _ _ rfl rfl rfl rfl rfl rfl rfl rfl rfl
 simp only[aa]at *;grind
def ag4:=fb (iQ::pt::nV::pq::Cl::(fn 33 (pr mv (fn 1 (pr (fn 1 (pr Z0 (.int 0))) (fn 6 (pr (fn 8 (pr aX (.int 12))) (.int 0)))))))::uc::XU::rK) Cm<|kH fun ρ p0 p1 p2 p3 p4 p5 p6 p7 p8 p9 am av az=>by
 have:=ao az
 have:=@ma ρ aX (.int 1)
 have:=@bY ρ aX (.int 1)
 have:=@kY ρ _ (.ar .add .i64 aX (.int 1)) _ _ _ am p9 p8 (.ar .sub .i64 aX (.int 1)) _ _ _ _ _ _ _ _ _ rfl rfl rfl rfl rfl rfl rfl rfl rfl
 simp only[aa]at *;grind
def ag5:=fb (iQ::pt::nV::pq::Cl::(fn 33 (pr mv (fn 1 (pr (fn 1 (pr Z0 (.int 0))) (fn 6 (pr (fn 8 (pr aX (.int 12))) (.int 0)))))))::uc::Ck::rK) Cm<|kH fun ρ p0 p1 p2 p3 p4 p5 p6 p7 p8 p9 am av az=>by
 have:=ao az
 have:=@ma ρ aX (.int 1)
 have:=@bY ρ aX (.int 1)
 have:=@kY ρ _ (.ar .add .i64 aX (.int 1)) _ _ _ am p9 p8 (.ar .sub .i64 aX (.int 1)) _ _ _ _ _ _ _ _ _ rfl rfl rfl rfl rfl rfl rfl rfl rfl
 simp only[aa]at *;grind
def ag6:=fb JF XV<|au fun ρ p0 p1=>by
 simp only[aa,ae]at *
 obtain⟨a,b,c⟩:=ab (E.I ρ aX+1)
 omega
def ag7:=fb JC XV<|ay fun ρ p0 p1 p2=>by
 have:=ao p0
 simp only[aa,ae]at *
 obtain⟨a,b,c⟩:=ab (E.I ρ aX+1)
 omega
def ag8:=fb XS XW<|ay fun ρ p0 p1 p2=>by
 simp only[aa,ae]at *
 obtain⟨a,b,c⟩:=ab (E.I ρ aX+1)
 omega
def ag9:=fb Cj XW<|au fun ρ p0 p1=>by
 simp only[aa,ae]at *
 obtain⟨a,b,c⟩:=ab (E.I ρ aX+1)
 omega
def bg:List Fa:=[G69,G70,G71,Qe,G73,Qg,G75,G76,Qj,G78,Qk,ny,G81,G82,G83,G84,Ql,G86,G87,G88,G89,Qm,G91,G92,G93,G94,G95,G96,G97,G98,G99,agt,Pf,Pg,agu,agv,AJ,agw,agx,agy,Ph,Pi,agz,agA,agB,agC,agD,agE,agF,agG,agH,agI,agJ,agK,agL,agM,agN,agO,agP,agQ,agR,agS,agT,agU,agV,agW,agX,agY,agZ,ag0,ag1,ag2,ag3,ag4,ag5,ag6,ag7,ag8,ag9]
theorem aG2:aV Tryz.prog (bz (aGI)):=sc bg (aBj) ab9 ([]) (by kernel_rfl) (by kernel_rfl)
def aca:Nl:=nc aG2 ab9
end
end Go.Proofs.YtnggbcblogpnfaaGreat.combatDamages
