/-
  CombatBlocks: contracts of functions, part 5.
-/
import Derived.Test.YtnggbcblogpnfaaGreatCombatBlocksPartd
namespace Go.Proofs.YtnggbcblogpnfaaGreat.combatBlocks
open Go.ChangeShapes Go.WideShapes Go.ChangeAt Go.RowKit
open Go.SX
open Go.SX.E (fn pr cmp var)
set_option linter.unusedVariables false
set_option linter.unusedSimpArgs false
set_option maxRecDepth 100000
noncomputable section
abbrev Z0:E:=var 0
abbrev Z1:E:=var 4
abbrev Z2:E:=cmp .lss Z1 (fn 9 (pr Z0 (.int 2)))
abbrev Z3:E:=cmp .lss (fn 1 (pr Z0 (fn 6 (pr (fn 8 (pr Z1 (.int 2))) (.int 0))))) (.int 0)
abbrev Z4:E:=cmp .lss Z1 (.int 0)
abbrev Z5:E:=.not Z4
abbrev Z6:=[Z5]
abbrev Z7:E:=pr Z0 (fn 9 (pr Z0 (.int 2)))
abbrev Z8:E:=fn 101 Z7
abbrev Z9:E:=.not Z8
abbrev xj:E:=.iff Z5 Z9
abbrev ti:E:=.not Z3
abbrev X6:E:=cmp .lss (fn 1 (pr Z0 (fn 6 (pr (fn 8 (pr Z1 (.int 2))) (.int 1))))) (.int 0)
abbrev B8:E:=.not X6
abbrev Cd:E:=cmp .lss (.int 1) (fn 1 (pr Z0 (fn 6 (pr (fn 8 (pr Z1 (.int 2))) (.int 1)))))
abbrev JU:E:=cmp .eql (fn 1 (pr Z0 (fn 6 (pr (fn 8 (pr Z1 (.int 2))) (.int 0))))) (.int 0)
abbrev Ym:E:=cmp .eql (fn 1 (pr Z0 (fn 6 (pr (fn 8 (pr Z1 (.int 2))) (.int 1))))) (.int 0)
abbrev Z17:E:=cmp .lss (.int 1000) (fn 9 (pr Z0 (.int 2)))
abbrev Z18:E:=.not Z17
abbrev Z19:=[Z18]
abbrev Yv:=Z5::Z19
abbrev YA:=Z2::Yv
abbrev Z22:E:=cmp .lss (.ar .add .i64 Z1 (.int 1)) (.int 0)
abbrev JZ:E:=.not Z22
abbrev YL:E:=cmp .lss (.int 500) (fn 1 (pr Z0 (fn 6 (pr (fn 8 (pr Z1 (.int 2))) (.int 0)))))
abbrev YO:E:=fn 101 (pr Z0 Z1)
abbrev iS:E:=.bool false
abbrev Z27:=YO::Yv
abbrev YZ:List E:=(.not YL)::Z27
abbrev Z29:E:=pr Z0 (.ar .add .i64 Z1 (.int 1))
abbrev Y0:E:=fn 101 Z29
abbrev Y1:E:=cmp .lss Z0 (.int 0)
abbrev bR:E:=var 1
abbrev co:E:=var 2
abbrev ck:E:=var 3
abbrev bV:E:=var 5
abbrev Z36:E:=pr ck (pr Z1 bV)
abbrev Z37:E:=pr co Z36
abbrev Z38:E:=pr bR Z37
abbrev Z39:E:=pr Z0 Z38
abbrev Y2:E:=fn 102 Z39
abbrev kg:E:=.iff iS Y2
abbrev iT:E:=.not Y1
abbrev Y3:E:=cmp .lss (.int 1) Z0
abbrev ju:E:=.not Y3
abbrev Y4:E:=cmp .lss bR (.int 1)
abbrev kh:E:=.not Y4
abbrev Y5:E:=cmp .lss co (.int 0)
abbrev na:E:=.not Y5
abbrev Y6:E:=cmp .lss ck (.int (-1))
abbrev qH:E:=.not Y6
abbrev Y7:E:=cmp .lss (.int 1) ck
abbrev tq:E:=.not Y7
abbrev Y8:E:=cmp .lss (.int 4) (fn 9 (pr Z1 (.int 2)))
abbrev xq:E:=.not Y8
abbrev Cq:E:=cmp .lss ck (.int 0)
abbrev fP:E:=.not Cq
abbrev J4:E:=cmp .lss (.int 0) (fn 9 (pr Z1 (.int 2)))
abbrev dW:E:=var 6
abbrev J5:E:=cmp .lss dW (.int 0)
abbrev lu:E:=.not J5
abbrev Z61:E:=pr Z1 (fn 9 (pr Z1 (.int 2)))
abbrev Z62:E:=fn 101 Z61
abbrev Z63:E:=.not Z62
abbrev Z64:E:=.iff lu Z63
abbrev Y9:E:=cmp .lss (.int 500) bR
abbrev Z66:E:=.not Y9
abbrev Za:E:=cmp .lss (.int 399) co
abbrev Z68:E:=.not Za
abbrev Z69:=[Z68]
abbrev Zb:=Z66::Z69
abbrev J6:=Z64::Zb
abbrev J7:E:=.iff J5 Y2
abbrev nd:E:=cmp .lss Z1 (fn 9 (pr Z0 (.int 5)))
abbrev Z74:E:=pr (fn 1 (pr Z0 (fn 6 (pr (fn 8 (pr Z1 (.int 5))) (.int 4))))) iS
abbrev Z75:E:=pr (fn 1 (pr Z0 (fn 6 (pr (fn 8 (pr Z1 (.int 5))) (.int 3))))) Z74
abbrev Z76:E:=pr (fn 1 (pr Z0 (fn 6 (pr (fn 8 (pr Z1 (.int 5))) (.int 2))))) Z75
abbrev Z77:E:=pr (fn 1 (pr Z0 (fn 6 (pr (fn 8 (pr Z1 (.int 5))) (.int 1))))) Z76
abbrev Z78:E:=pr (fn 1 (pr Z0 (fn 6 (pr (fn 8 (pr Z1 (.int 5))) (.int 0))))) Z77
abbrev Z79:E:=fn 102 Z78
abbrev Zc:E:=.iff bV Z79
abbrev Z81:E:=pr iS (fn 9 (pr Z0 (.int 5)))
abbrev Z82:E:=pr Z0 Z81
abbrev Z83:E:=fn 103 Z82
abbrev Zd:E:=.not Z83
abbrev Z85:E:=cmp .lss (.int 1000) (fn 9 (pr Z0 (.int 5)))
abbrev Z86:E:=.not Z85
abbrev Z87:=[Z86]
abbrev J8:=Z5::Z87
abbrev Ze:=nd::J8
abbrev Z90:E:=pr Z0 (pr iS Z1)
abbrev Zf:E:=fn 103 Z90
abbrev oR:E:=.bool true
abbrev Z93:E:=pr (fn 1 (pr Z0 (fn 6 (pr (fn 8 (pr Z1 (.int 5))) (.int 4))))) oR
abbrev Z94:E:=pr (fn 1 (pr Z0 (fn 6 (pr (fn 8 (pr Z1 (.int 5))) (.int 3))))) Z93
abbrev Z95:E:=pr (fn 1 (pr Z0 (fn 6 (pr (fn 8 (pr Z1 (.int 5))) (.int 2))))) Z94
abbrev Z96:E:=pr (fn 1 (pr Z0 (fn 6 (pr (fn 8 (pr Z1 (.int 5))) (.int 1))))) Z95
abbrev Z97:E:=pr (fn 1 (pr Z0 (fn 6 (pr (fn 8 (pr Z1 (.int 5))) (.int 0))))) Z96
abbrev Z98:E:=fn 102 Z97
abbrev Zg:E:=.iff bV Z98
abbrev aB9:E:=pr oR (fn 9 (pr Z0 (.int 5)))
abbrev aCa:E:=pr Z0 aB9
abbrev aCb:E:=fn 103 aCa
abbrev XY:E:=.not aCb
abbrev aCc:E:=pr Z0 (pr oR Z1)
abbrev XZ:E:=fn 103 aCc
abbrev th:E:=cmp .lss Z1 (fn 0 Z0)
abbrev X0:E:=cmp .eql bR (fn 1 (pr Z0 Z1))
abbrev X1:E:=fn 114 (pr Z0 bR)
abbrev aCd:E:=cmp .lss (.int 1000) (fn 0 Z0)
abbrev aCe:E:=.not aCd
abbrev aCf:=[aCe]
abbrev X2:=Z5::aCf
abbrev X3:=th::X2
abbrev X4:E:=cmp .eql (fn 131 (pr Z0 (pr bR Z1))) (.int 0)
abbrev X5:E:=cmp .lss (.int 99) ck
abbrev dU:E:=var 7
abbrev bm:E:=var 8
abbrev B7:E:=fn 137 (pr Z0 (pr bR (pr co (pr ck (pr Z1 (pr bV (pr dW (pr dU bm))))))))
abbrev fO:E:=.iff iS B7
abbrev X7:E:=cmp .lss (.int 99) Z1
abbrev X8:E:=cmp .lss bV (.int 0)
abbrev kc:E:=.not X8
abbrev X9:E:=cmp .lss (.int 99) bV
abbrev Ya:E:=cmp .lss (.int 99) dW
abbrev Yb:E:=cmp .lss dU (.int 0)
abbrev qC:E:=.not Yb
abbrev Yc:E:=cmp .lss (.int 99) dU
abbrev Yd:E:=cmp .lss bm (.int 0)
abbrev xk:E:=.not Yd
abbrev Ye:E:=cmp .lss (.int 99) bm
abbrev JR:E:=cmp .eql bR (.int (-1))
abbrev B9:E:=.not JR
abbrev Ca:E:=cmp .eql ck (.int 0)
abbrev JS:E:=cmp .eql Z1 (.int 0)
abbrev Yf:E:=cmp .lss Z0 (.int 1)
abbrev qD:E:=.not Yf
abbrev Cb:E:=cmp .lss bR (.int (-1))
abbrev JT:E:=cmp .lss bR (.int 400)
abbrev Cc:E:=cmp .eql co (.int 0)
abbrev Yg:E:=.not X5
abbrev aCg:E:=.not X9
abbrev aCh:E:=.not Ya
abbrev aCi:E:=.not Yc
abbrev aCj:E:=.not Ye
abbrev Yh:E:=cmp .lss (.int 500) Z0
abbrev aCk:E:=.not Yh
abbrev aCl:=[aCk]
abbrev aCm:=aCj::aCl
abbrev aCn:=aCi::aCm
abbrev aCo:=aCh::aCn
abbrev Yi:=aCg::aCo
abbrev Yj:=Yg::Yi
abbrev aCp:E:=cmp .eql co (.int 1)
abbrev Yk:E:=.iff aCp B7
abbrev aCq:List E:=(.not X7)::Yi
abbrev Yl:=Yg::aCq
abbrev JV:E:=pr (.int 0) (.int 0)
abbrev gT:E:=fn 117 Z0
abbrev iq:=[gT]
abbrev mX:E:=cmp .eql bm (.int 0)
abbrev aCr:E:=cmp .lss (.ar .add .i64 bm (.int 1)) (.int 0)
abbrev Yn:E:=.not aCr
abbrev kd:E:=cmp .eql bm (.int 1)
abbrev cQ:E:=var 16
abbrev Ce:E:=cmp .eql cQ (.int 0)
abbrev mY:E:=pr Z0 (pr bm cQ)
abbrev Cf:E:=cmp .eql cQ (.int 1)
abbrev Cg:E:=cmp .eql cQ (.int 2)
abbrev Ch:E:=cmp .lss cQ (.int 4)
abbrev aCs:E:=cmp .lss cQ (.int 0)
abbrev Yo:E:=.not aCs
abbrev aCt:=[Yo,mX]
abbrev Yp:=Ch::aCt
abbrev aCu:E:=cmp .lss (.int 2) (.ar .add .i64 bm (.int 1))
abbrev Yq:E:=.not aCu
abbrev qE:=[Ch,Yo]
abbrev dV:E:=var 24
abbrev iR:E:=var 28
abbrev qF:E:=cmp .lss dV (fn 0 iR)
abbrev tj:E:=var 25
abbrev xl:E:=fn 104 (pr tj (pr Z0 (pr bm (pr cQ dV))))
abbrev xm:E:=fn 109 (pr iR mY)
abbrev aCv:E:=cmp .lss dV (.int 0)
abbrev JW:E:=.not aCv
abbrev Yr:=JW::Yp
abbrev kf:E:=.iff iS (fn 108 Z0)
abbrev aCw:E:=cmp .lss (.int 40) (fn 0 iR)
abbrev JX:E:=.not aCw
abbrev Ys:=[JW]
abbrev aCx:=JX::Ys
abbrev Yt:=qF::aCx
abbrev Yu:=JW::qE
abbrev aCy:E:=pr bm (pr cQ (.int 0))
abbrev aCz:E:=pr Z0 aCy
abbrev aCA:E:=pr (var 17) aCz
abbrev aCB:E:=fn 104 aCA
abbrev aCC:E:=cmp .lss (.int 4) cQ
abbrev aCD:E:=.not aCC
abbrev aCE:=[aCD]
abbrev Yw:=aCB::aCE
abbrev aCF:E:=pr (.ar .add .i64 bm (.int 1)) JV
abbrev aCG:E:=pr Z0 aCF
abbrev aCH:E:=pr (var 17) aCG
abbrev Yx:E:=fn 104 aCH
abbrev Yy:=qF::Ys
abbrev Yz:E:=cmp .lss (fn 7 (pr (.int 2) (.ar .add .i64 bm (.int 1)))) (fn 7 (pr (.int 2) bm))
abbrev dh:E:=var 32
abbrev tk:E:=cmp .lss dh (fn 9 (pr (fn 1 (pr Z0 (.int 29))) (.int 5)))
abbrev JY:E:=cmp .lss (fn 1 (pr (fn 1 (pr Z0 (.int 29))) (fn 6 (pr (fn 8 (pr dh (.int 5))) (.int 3))))) (.int 0)
abbrev tl:E:=var 33
abbrev Ci:E:=var 34
abbrev YB:E:=pr Z0 dh
abbrev aCI:E:=pr Ci YB
abbrev YC:E:=fn 106 aCI
abbrev aCJ:E:=pr tl YB
abbrev YD:E:=fn 105 aCJ
abbrev aCK:E:=cmp .lss dh (.int 0)
abbrev aCL:E:=.not aCK
abbrev YE:=[aCL]
abbrev aCM:=YD::YE
abbrev YF:=YC::aCM
abbrev aCN:=tk::YE
abbrev Cj:=gT::aCN
abbrev YG:E:=.not (fn 33 (pr tj (fn 1 (pr iR dV))))
abbrev aCO:E:=pr cQ (.ar .add .i64 dV (.int 1))
abbrev aCP:E:=pr bm aCO
abbrev aCQ:E:=pr Z0 aCP
abbrev aCR:E:=pr (fn 34 (pr tj (pr (fn 1 (pr iR dV)) bm))) aCQ
abbrev YH:E:=fn 104 aCR
abbrev aCS:E:=cmp .lss (fn 7 (pr (.int 2) (.ar .add .i64 bm (.int 1)))) (.int 0)
abbrev YI:E:=.not aCS
abbrev aCT:E:=cmp .lss (fn 9 (pr (fn 1 (pr Z0 (.int 29))) (.int 5))) dh
abbrev aCU:E:=.not aCT
abbrev YJ:=[aCU]
abbrev Ck:E:=pr Z0 (fn 9 (pr (fn 1 (pr Z0 (.int 29))) (.int 5)))
abbrev aCV:E:=.not (fn 33 (pr tl (fn 1 (pr (fn 1 (pr Z0 (.int 29))) (fn 6 (pr (fn 8 (pr dh (.int 5))) (.int 1)))))))
abbrev YK:=gT::YF
abbrev aCW:=aCV::YK
abbrev aCX:=JY::aCW
abbrev YM:=tk::aCX
abbrev Cl:E:=pr Z0 (.ar .add .i64 dh (.int 1))
abbrev aCY:List E:=(.not JY)::YK
abbrev YN:=tk::aCY
abbrev aV:E:=var 40
abbrev gU:E:=cmp .lss aV (fn 9 (pr (fn 1 (pr Z0 (.int 0))) (.int 12)))
abbrev oO:E:=cmp .lss (.int 0) aV
abbrev Cm:=[gU,oO]
abbrev J0:=gT::Cm
abbrev J1:E:=fn 107 (pr Z0 aV)
abbrev lr:E:=var 41
abbrev J2:E:=fn 105 (pr lr Ck)
abbrev tn:E:=.not oO
abbrev aCZ:E:=cmp .lss aV (.int 0)
abbrev YP:E:=.not aCZ
abbrev YQ:=[YP]
abbrev J3:=tn::YQ
abbrev aC0:E:=cmp .lss (.ar .add .i64 aV (.int 1)) (.int 0)
abbrev YR:E:=.not aC0
abbrev mZ:E:=var 43
abbrev oQ:E:=.iff mZ (fn 137 (pr (fn 1 (pr (fn 1 (pr Z0 (.int 0))) (fn 6 (pr (fn 8 (pr aV (.int 12))) (.int 0))))) (pr (fn 1 (pr (fn 1 (pr Z0 (.int 0))) (fn 6 (pr (fn 8 (pr aV (.int 12))) (.int 1))))) (pr (fn 1 (pr (fn 1 (pr Z0 (.int 0))) (fn 6 (pr (fn 8 (pr aV (.int 12))) (.int 2))))) (pr (fn 1 (pr (fn 1 (pr Z0 (.int 0))) (fn 6 (pr (fn 8 (pr aV (.int 12))) (.int 3))))) (pr (fn 1 (pr (fn 1 (pr Z0 (.int 0))) (fn 6 (pr (fn 8 (pr aV (.int 12))) (.int 4))))) (pr (fn 1 (pr (fn 1 (pr Z0 (.int 0))) (fn 6 (pr (fn 8 (pr aV (.int 12))) (.int 5))))) (pr (fn 1 (pr (fn 1 (pr Z0 (.int 0))) (fn 6 (pr (fn 8 (pr aV (.int 12))) (.int 6))))) (pr (fn 1 (pr (fn 1 (pr Z0 (.int 0))) (fn 6 (pr (fn 8 (pr aV (.int 12))) (.int 7))))) (fn 1 (pr (fn 1 (pr Z0 (.int 0))) (fn 6 (pr (fn 8 (pr aV (.int 12))) (.int 8))))))))))))))
abbrev xn:E:=var 42
abbrev Cn:E:=cmp .eql (fn 32 (pr xn (pr (fn 1 (pr (fn 1 (pr Z0 (.int 0))) (fn 6 (pr (fn 8 (pr aV (.int 12))) (.int 0))))) (.int 0)))) (fn 1 (pr (fn 1 (pr Z0 (.int 0))) (fn 6 (pr (fn 8 (pr aV (.int 12))) (.int 1)))))
abbrev YS:E:=fn 106 (pr xn Ck)
abbrev xp:=J1::YS::J2::YQ
abbrev tp:E:=cmp .eql (fn 32 (pr lr (pr (fn 1 (pr (fn 1 (pr Z0 (.int 0))) (fn 6 (pr (fn 8 (pr aV (.int 12))) (.int 0))))) (.int 0)))) (fn 1 (pr (fn 1 (pr Z0 (.int 0))) (fn 6 (pr (fn 8 (pr aV (.int 12))) (.int 2)))))
abbrev YT:E:=.not (fn 33 (pr lr (fn 1 (pr (fn 1 (pr Z0 (.int 0))) (fn 6 (pr (fn 8 (pr aV (.int 12))) (.int 0)))))))
abbrev Co:E:=cmp .lss (fn 1 (pr (fn 1 (pr Z0 (.int 0))) (fn 6 (pr (fn 8 (pr (.ar .sub .i64 aV (.int 1)) (.int 12))) (.int 0))))) (fn 1 (pr (fn 1 (pr Z0 (.int 0))) (fn 6 (pr (fn 8 (pr aV (.int 12))) (.int 0)))))
abbrev qG:=J1::YS::J2::YP::iq
abbrev YU:=gU::J3
abbrev aC1:E:=cmp .lss (fn 9 (pr (fn 1 (pr Z0 (.int 0))) (.int 12))) (.ar .add .i64 aV (.int 1))
abbrev YV:E:=.not aC1
abbrev YW:E:=.not (fn 33 (pr xn (fn 1 (pr (fn 1 (pr Z0 (.int 0))) (fn 6 (pr (fn 8 (pr aV (.int 12))) (.int 0)))))))
abbrev Cp:E:=fn 107 (pr Z0 (.ar .add .i64 aV (.int 1)))
abbrev YX:E:=cmp .lss (fn 7 (pr (fn 9 (pr (fn 1 (pr Z0 (.int 0))) (.int 12))) (.ar .add .i64 aV (.int 1)))) (fn 7 (pr (fn 9 (pr (fn 1 (pr Z0 (.int 0))) (.int 12))) aV))
abbrev aC2:E:=cmp .lss (fn 7 (pr (fn 9 (pr (fn 1 (pr Z0 (.int 0))) (.int 12))) (.ar .add .i64 aV (.int 1)))) (.int 0)
abbrev YY:E:=.not aC2
theorem aJj:mq Tryz.prog (fun tb=>q8 uH (run Tryz.prog (tb.plus [] [] EQ.l) 3000 (.call 10 []) .nil (sd 0 []) SX.one))=true:=by kernel_rfl
def adz:Nl:=nc (aGr good (facts:=[]) all_nil (anns:=[]) (lY [] rfl) (nats:=EQ.l) EQ.h aJj) EQ

def G0:=fa ((fn 101 (pr Z0 (.int 0))))<|fun F=>by
 rfl
def G1:=fb (Z2::Z3::Z6) xj<|aj fun F p0 p1 p2=>by
 have:=fun h0 h1=>@mh F _ _ (fn 9 (pr Z0 (.int 2))) h0 h1 (fn 1 _) (fn 1 (pr Z0 (fn 6 (pr (fn 8 (pr Z1 _)) _)))) rfl rfl
 simp only[aa]at *;grind
def G2:=fb (Z2::ti::X6::Z6) xj<|aw fun F p0 p1 p2 p3=>by
 have:=fun h0 h1=>@mh F _ _ (fn 9 (pr Z0 (.int 2))) h0 h1 _ (fn 1 (pr Z0 (fn 6 (pr (fn 8 (pr Z1 _)) _)))) rfl rfl
 simp only[aa]at *;grind
def G3:=fb (Z2::ti::B8::(.not Cd)::(.not JU)::(.not Ym)::Z6) xj<|cH fun F p0 p1 p2 p3 p4 p5 p6=>by
 have:=fun h0 h1=>@mh F _ _ (fn 9 (pr Z0 (.int 2))) h0 h1 (fn 1 _) (fn 1 (pr Z0 (fn 6 (pr (fn 8 (pr Z1 _)) _)))) rfl rfl
 simp only[aa]at *;grind
def G4:=fb YA JZ<|aj fun F p0 p1 p2=>by
 simp only[aa,ae]at *
 obtain⟨a,b,c⟩:=ab (E.I F Z1+1)
 omega
def G5:=fb (Z2::ti::B8::Cd::Z6) xj<|aJ fun F p0 p1 p2 p3 p4=>by
 have:=fun h0 h1=>@mh F _ _ (fn 9 (pr Z0 (.int 2))) h0 h1 _ (fn 1 (pr Z0 (fn 6 (pr (fn 8 (pr Z1 _)) _)))) rfl rfl
 simp only[aa]at *;grind
def G6:=fb (Z2::ti::YL::Z6) xj<|aw fun F p0 p1 p2 p3=>by
 have:=fun h0 h1=>@mh F _ _ (fn 9 (pr Z0 (.int 2))) h0 h1 (fn 1 _) (fn 1 (pr Z0 (fn 6 (pr (fn 8 (pr Z1 _)) _)))) rfl rfl
 simp only[aa]at *;grind
def G7:=fb [(.not Z2),YO] (.iff iS Z9)<|am fun F p0 p1=>by
 have:=fun h1=>@agL F _ _ (fn 9 (pr Z0 (.int 2))) p1 h1
 simp only[aa]at *;grind
def G8:=fb (Z2::Z6) (.not (cmp .lss (fn 9 (pr Z0 (.int 2))) (.ar .add .i64 Z1 (.int 1))))<|am fun F p0 p1=>by
 simp only[aa,ae]at *
 obtain⟨a,b,c⟩:=ab (E.I F Z1+1)
 omega
def G9:=fb (Z2::ti::B8::(.not Cd)::(.not JU)::Ym::YZ) Y0<|eT fun F p0 p1 p2 p3 p4 p5 p6 p7 p8 p9=>by
 have:=@bJ F Z1 (.int 1)
 have:=fun h0 hm=>@Gg F _ (.ar .add .i64 Z1 (.int 1)) _ p7 h0 hm (fn 1 _) (fn 1 _) rfl rfl
 simp only[aa]at *;grind
def G10:=fb (Z2::ti::B8::(.not Cd)::JU::YZ) Y0<|dP fun F p0 p1 p2 p3 p4 p5 p6 p7 p8=>by
 have:=@bJ F Z1 (.int 1)
 have:=fun h0 hm=>@Gg F _ (.ar .add .i64 Z1 (.int 1)) _ p6 h0 hm (fn 1 _) (fn 1 _) rfl rfl
 simp only[aa]at *;grind
def G11:=fb YA (cmp .lss (fn 7 (pr (fn 9 (pr Z0 (.int 2))) (.ar .add .i64 Z1 (.int 1)))) (fn 7 (pr (fn 9 (pr Z0 (.int 2))) Z1)))<|aj fun F p0 p1 p2=>by
 simp only[aa,ae]at *
 obtain⟨a,b,c⟩:=ab (E.I F Z1+1)
 omega
def G12:=fb (Z2::Z6) (.not (cmp .lss (fn 7 (pr (fn 9 (pr Z0 (.int 2))) (.ar .add .i64 Z1 (.int 1)))) (.int 0)))<|am fun F p0 p1=>by
 simp only[aa,ae]at *
 obtain⟨a,b,c⟩:=ab (E.I F Z1+1)
 omega
def ao:List Fa:=[G0,G1,G2,G3,G4,G5,G6,G7,G8,G9,G10,G11,G12]
theorem aKF:aL Tryz.prog (bh (aKz)):=sc ao (aFp) adz ([]) (by kernel_rfl) (by kernel_rfl)
def adA:Nl:=nc aKF adz
def PL:=fb [Y1] kg<|ah fun F p0=>by
 have:=(@dz F ck bR Z0 bV co Z1)
 simp only[aa]at *;grind
def G14:=fb [iT,ju,Y4] kg<|aj fun F p0 p1 p2=>by
 have:=(@dz F ck bR Z0 bV co Z1)
 simp only[aa]at *;grind
def G15:=fb [iT,ju,kh,Y5] kg<|aw fun F p0 p1 p2 p3=>by
 have:=(@dz F ck bR Z0 bV co Z1)
 simp only[aa]at *;grind
def G16:=fb [iT,ju,kh,na,Y6] kg<|aJ fun F p0 p1 p2 p3 p4=>by
 have:=(@dz F ck bR Z0 bV co Z1)
 simp only[aa]at *;grind
def G17:=fb (iT::ju::kh::na::qH::tq::xq::fP::(.not J4)::bV::J6) J7<|gx fun F p0 p1 p2 p3 p4 p5 p6 p7 p8 p9 ak ao ap=>by
 have:=pw F (pr Z1 (.int 2))
 have:=(@dz F ck bR Z0 bV co Z1)
 simp only[aa]at *;grind
def G18:=fb (iT::ju::kh::na::qH::tq::xq::fP::(.not J4)::J6) J7<|jE fun F p0 p1 p2 p3 p4 p5 p6 p7 p8 p9 ak ao=>by
 have:=pw F (pr Z1 (.int 2))
 have:=(@dz F ck bR Z0 bV co Z1)
 simp only[aa]at *;grind
def G19:=fb (iT::ju::kh::na::qH::tq::xq::fP::J4::Zb) kg<|gX fun F p0 p1 p2 p3 p4 p5 p6 p7 p8 p9 ak=>by
 have:=(@dz F ck bR Z0 bV co Z1)
 simp only[aa]at *;grind
def G20:=fb [iT,ju,kh,na,qH,tq,xq,Cq,bV] kg<|dP fun F p0 p1 p2 p3 p4 p5 p6 p7 p8=>by
 have:=(@dz F ck bR Z0 bV co Z1)
 simp only[aa]at *;grind
def G21:=fb (iT::ju::kh::na::qH::tq::xq::Cq::(.not bV)::J6) J7<|jE fun F p0 p1 p2 p3 p4 p5 p6 p7 p8 p9 ak ao=>by
 have:=(@dz F ck bR Z0 bV co Z1)
 simp only[aa]at *;grind
def G22:=fb [iT,ju,kh,na,qH,tq,Y8] kg<|cH fun F p0 p1 p2 p3 p4 p5 p6=>by
 have:=(@dz F ck bR Z0 bV co Z1)
 simp only[aa]at *;grind
def G23:=fb [iT,ju,kh,na,qH,Y7] kg<|bL fun F p0 p1 p2 p3 p4 p5=>by
 have:=(@dz F ck bR Z0 bV co Z1)
 simp only[aa]at *;grind
def G24:=fb [iT,ju,kh,na,Za] kg<|aJ fun F p0 p1 p2 p3 p4=>by
 have:=(@dz F ck bR Z0 bV co Z1)
 simp only[aa]at *;grind
def G25:=fb [iT,ju,kh,Y9] kg<|aw fun F p0 p1 p2 p3=>by
 have:=(@dz F ck bR Z0 bV co Z1)
 simp only[aa]at *;grind
def G26:=fb [iT,Y3] kg<|am fun F p0 p1=>by
 have:=(@dz F ck bR Z0 bV co Z1)
 simp only[aa]at *;grind
def ap:List Fa:=[PL,G14,G15,G16,G17,G18,G19,G20,G21,G22,G23,G24,G25,G26]
theorem aKG:aL Tryz.prog (bh (aKb)):=sc ap ([]) adA ([]) (by kernel_rfl) (by kernel_rfl)
def adB:Nl:=nc aKG adA
def G27:=fa ((fn 103 (pr Z0 (pr iS (.int 0)))))<|fun F=>by
 rfl
def G28:=fb (nd::Zc::(.not bV)::Z6) (.iff Z5 Zd)<|aw fun F p0 p1 p2 p3=>by
 have:=fun h0 h1=>@Gi F _ _ (fn 9 (pr Z0 (.int 5))) _ h0 h1 (fn _ (pr (fn 1 _) (pr (fn 1 _) (pr (fn 1 _) (pr (fn 1 _) (pr (fn 1 (pr Z0 (fn 6 (pr (fn 8 (pr Z1 _)) _)))) iS)))))) rfl
 simp only[aa]at *;grind
def PX:=fb Ze JZ<|aj fun F p0 p1 p2=>by
 simp only[aa,ae]at *
 obtain⟨a,b,c⟩:=ab (E.I F Z1+1)
 omega
def G30:=fb [(.not nd),Zf] (.iff iS Zd)<|am fun F p0 p1=>by
 have:=fun h1=>@Gh F _ _ (fn 9 (pr Z0 (.int 5))) _ p1 h1
 simp only[aa]at *;grind
def P2:=fb (nd::Z6) (.not (cmp .lss (fn 9 (pr Z0 (.int 5))) (.ar .add .i64 Z1 (.int 1))))<|am fun F p0 p1=>by
 simp only[aa,ae]at *
 obtain⟨a,b,c⟩:=ab (E.I F Z1+1)
 omega
def G32:=fb (nd::Zc::bV::Zf::J8) (fn 103 (pr Z0 (pr iS (.ar .add .i64 Z1 (.int 1)))))<|bL fun F p0 p1 p2 p3 p4 p5=>by
 have:=@bJ F Z1 (.int 1)
 have:=fun h0 hm=>@Gj F _ _ (.ar .add .i64 Z1 (.int 1)) _ p3 h0 hm (fn _ (pr (fn 1 _) (pr (fn 1 _) (pr (fn 1 _) (pr (fn 1 _) (pr (fn 1 _) _)))))) rfl
 simp only[aa]at *;grind
def P3:=fb Ze (cmp .lss (fn 7 (pr (fn 9 (pr Z0 (.int 5))) (.ar .add .i64 Z1 (.int 1)))) (fn 7 (pr (fn 9 (pr Z0 (.int 5))) Z1)))<|aj fun F p0 p1 p2=>by
 simp only[aa,ae]at *
 obtain⟨a,b,c⟩:=ab (E.I F Z1+1)
 omega
def P4:=fb (nd::Z6) (.not (cmp .lss (fn 7 (pr (fn 9 (pr Z0 (.int 5))) (.ar .add .i64 Z1 (.int 1)))) (.int 0)))<|am fun F p0 p1=>by
 simp only[aa,ae]at *
 obtain⟨a,b,c⟩:=ab (E.I F Z1+1)
 omega
def az:List Fa:=[G27,G28,PX,G30,P2,G32,P3,P4]
theorem aKH:aL Tryz.prog (bh (agv 77 false)):=sc az (aar 77 false) adB ([]) (by kernel_rfl) (by kernel_rfl)
def adC:Nl:=nc aKH adB
def G35:=fa ((fn 103 (pr Z0 (pr oR (.int 0)))))<|fun F=>by
 rfl
def G36:=fb (nd::Zg::(.not bV)::Z6) (.iff Z5 XY)<|aw fun F p0 p1 p2 p3=>by
 have:=fun h0 h1=>@Gi F _ _ (fn 9 (pr Z0 (.int 5))) _ h0 h1 (fn _ (pr (fn 1 _) (pr (fn 1 _) (pr (fn 1 _) (pr (fn 1 _) (pr (fn 1 (pr Z0 (fn 6 (pr (fn 8 (pr Z1 _)) _)))) oR)))))) rfl
 simp only[aa]at *;grind
def G37:=fb [(.not nd),XZ] (.iff iS XY)<|am fun F p0 p1=>by
 have:=fun h1=>@Gh F _ _ (fn 9 (pr Z0 (.int 5))) _ p1 h1
 simp only[aa]at *;grind
def G38:=fb (nd::Zg::bV::XZ::J8) (fn 103 (pr Z0 (pr oR (.ar .add .i64 Z1 (.int 1)))))<|bL fun F p0 p1 p2 p3 p4 p5=>by
 have:=@bJ F Z1 (.int 1)
 have:=fun h0 hm=>@Gj F _ _ (.ar .add .i64 Z1 (.int 1)) _ p3 h0 hm (fn _ (pr (fn 1 _) (pr (fn 1 _) (pr (fn 1 _) (pr (fn 1 _) (pr (fn 1 _) _)))))) rfl
 simp only[aa]at *;grind
def aC:List Fa:=[G35,G36,PX,G37,P2,G38,P3,P4]
theorem aKI:aL Tryz.prog (bh (agv 79 true)):=sc aC (aar 79 true) adC ([]) (by kernel_rfl) (by kernel_rfl)
def adD:Nl:=nc aKI adC
def P5:=fa ((cmp .eql (fn 131 (pr Z0 (pr bR (.int 0)))) (.int 0)))<|fun F=>by
 rfl
def G40:=fb (th::X0::Z6) (.iff Z5 X1)<|aj fun F p0 p1 p2=>by
 have:=@aMg F Z0 bR Z1
 simp only[aa]at *;grind
def G41:=fb X3 JZ<|aj fun F p0 p1 p2=>by
 simp only[aa,ae]at *
 obtain⟨a,b,c⟩:=ab (E.I F Z1+1)
 omega
def G42:=fb [(.not th),X4] (.iff iS X1)<|am fun F p0 p1=>by
 have:=@aMu F Z0 bR Z1
 simp only[aa]at *;grind
def G43:=fb (th::Z6) (.not (cmp .lss (fn 0 Z0) (.ar .add .i64 Z1 (.int 1))))<|am fun F p0 p1=>by
 simp only[aa,ae]at *
 obtain⟨a,b,c⟩:=ab (E.I F Z1+1)
 omega
def G44:=fb (th::(.not X0)::X4::X2) (cmp .eql (fn 131 (pr Z0 (pr bR (.ar .add .i64 Z1 (.int 1))))) (.int 0))<|aJ fun F p0 p1 p2 p3 p4=>by
 have:=@bJ F Z1 (.int 1)
 have:=@NV F Z0 bR Z1 (.ar .add .i64 Z1 (.int 1))
 simp only[aa]at *;grind
def G45:=fb X3 (cmp .lss (fn 7 (pr (fn 0 Z0) (.ar .add .i64 Z1 (.int 1)))) (fn 7 (pr (fn 0 Z0) Z1)))<|aj fun F p0 p1 p2=>by
 simp only[aa,ae]at *
 obtain⟨a,b,c⟩:=ab (E.I F Z1+1)
 omega
def G46:=fb (th::Z6) (.not (cmp .lss (fn 7 (pr (fn 0 Z0) (.ar .add .i64 Z1 (.int 1)))) (.int 0)))<|am fun F p0 p1=>by
 simp only[aa,ae]at *
 obtain⟨a,b,c⟩:=ab (E.I F Z1+1)
 omega
def aD:List Fa:=[P5,G40,G41,G42,G43,G44,G45,G46]
theorem aKJ:aL Tryz.prog (bh (aKk)):=sc aD (aFb) adD ([]) (by kernel_rfl) (by kernel_rfl)
def adE:Nl:=nc aKJ adD
def Ql:=fb [fP,X5] fO<|am fun F p0 p1=>by
 have:=@cz F Z0 bR co ck Z1 bV dW dU bm
 simp only[aa]at *;grind
def Qr:=fb [fP,Z5,X7] fO<|aj fun F p0 p1 p2=>by
 have:=@cz F Z0 bR co ck Z1 bV dW dU bm
 simp only[aa]at *;grind
def Qv:=fb [fP,Z5,kc,X9] fO<|aw fun F p0 p1 p2 p3=>by
 have:=@cz F Z0 bR co ck Z1 bV dW dU bm
 simp only[aa]at *;grind
def QB:=fb [fP,Z5,kc,lu,Ya] fO<|aJ fun F p0 p1 p2 p3 p4=>by
 have:=@cz F Z0 bR co ck Z1 bV dW dU bm
 simp only[aa]at *;grind
def QC:=fb [fP,Z5,kc,lu,qC,Yc] fO<|bL fun F p0 p1 p2 p3 p4 p5=>by
 have:=@cz F Z0 bR co ck Z1 bV dW dU bm
 simp only[aa]at *;grind
def G52:=fb [fP,Z5,kc,lu,qC,xk,Ye] fO<|cH fun F p0 p1 p2 p3 p4 p5 p6=>by
 have:=@cz F Z0 bR co ck Z1 bV dW dU bm
 simp only[aa]at *;grind
def G53:=fb (fP::Z5::kc::lu::qC::xk::B9::Ca::JS::qD::(.not Cb)::JT::(.not Cc)::Yj) Yk<|tX fun F p0 p1 p2 p3 p4 p5 p6 p7 p8 p9 ak ao ap az aC aD aR aZ bl=>by
 have:=@cz F Z0 bR co ck Z1 bV dW dU bm
 simp only[aa]at *;grind
def G54:=fb (fP::Z5::kc::lu::qC::xk::B9::Ca::JS::qD::(.not Cb)::JT::Cc::Yj) (.iff oR B7)<|tX fun F p0 p1 p2 p3 p4 p5 p6 p7 p8 p9 ak ao ap az aC aD aR aZ bl=>by
 have:=@cz F Z0 bR co ck Z1 bV dW dU bm
 simp only[aa]at *;grind
def G55:=fb [qD,(.not Cb),(.not JT)] fO<|aj fun F p0 p1 p2=>by
 have:=@cz F Z0 bR co ck Z1 bV dW dU bm
 simp only[aa]at *;grind
def QD:=fb [qD,Cb] fO<|am fun F p0 p1=>by
 have:=@cz F Z0 bR co ck Z1 bV dW dU bm
 simp only[aa]at *;grind
def QF:=fb [qD,Yh] fO<|am fun F p0 p1=>by
 have:=@cz F Z0 bR co ck Z1 bV dW dU bm
 simp only[aa]at *;grind
def QG:=fb [Yf] fO<|ah fun F p0=>by
 have:=@cz F Z0 bR co ck Z1 bV dW dU bm
 simp only[aa]at *;grind
def G59:=fb [B9,Ca,(.not JS)] fO<|aj fun F p0 p1 p2=>by
 have:=@cz F Z0 bR co ck Z1 bV dW dU bm
 simp only[aa]at *;grind
def G60:=fb [B9,(.not Ca)] fO<|am fun F p0 p1=>by
 have:=@cz F Z0 bR co ck Z1 bV dW dU bm
 simp only[aa]at *;grind
def G61:=fb (fP::Z5::kc::lu::qC::xk::JR::qD::(.not Cc)::Yl) Yk<|jF fun F p0 p1 p2 p3 p4 p5 p6 p7 p8 p9 ak ao ap az aC aD=>by
 have:=@cz F Z0 bR co ck Z1 bV dW dU bm
 simp only[aa]at *;grind
def G62:=fb (fP::Z5::kc::lu::qC::xk::JR::qD::Cc::Yl) (.iff oR B7)<|jF fun F p0 p1 p2 p3 p4 p5 p6 p7 p8 p9 ak ao ap az aC aD=>by
 have:=@cz F Z0 bR co ck Z1 bV dW dU bm
 simp only[aa]at *;grind
def QI:=fb [fP,Z5,kc,lu,qC,Yd] fO<|bL fun F p0 p1 p2 p3 p4 p5=>by
 have:=@cz F Z0 bR co ck Z1 bV dW dU bm
 simp only[aa]at *;grind
def QS:=fb [fP,Z5,kc,lu,Yb] fO<|aJ fun F p0 p1 p2 p3 p4=>by
 have:=@cz F Z0 bR co ck Z1 bV dW dU bm
 simp only[aa]at *;grind
def Q0:=fb [fP,Z5,kc,J5] fO<|aw fun F p0 p1 p2 p3=>by
 have:=@cz F Z0 bR co ck Z1 bV dW dU bm
 simp only[aa]at *;grind
def Q1:=fb [fP,Z5,X8] fO<|aj fun F p0 p1 p2=>by
 have:=@cz F Z0 bR co ck Z1 bV dW dU bm
 simp only[aa]at *;grind
def Q2:=fb [fP,Z4] fO<|am fun F p0 p1=>by
 have:=@cz F Z0 bR co ck Z1 bV dW dU bm
 simp only[aa]at *;grind
def Q3:=fb [Cq] fO<|ah fun F p0=>by
 have:=@cz F Z0 bR co ck Z1 bV dW dU bm
 simp only[aa]at *;grind
def aR:List Fa:=[Ql,Qr,Qv,QB,QC,G52,G53,G54,G55,QD,QF,QG,G59,G60,G61,G62,QI,QS,Q0,Q1,Q2,Q3]
theorem aKK:aL Tryz.prog (bh (agy 82)):=sc aR ([]) adE ([]) (by kernel_rfl) (by kernel_rfl)
def adF:Nl:=nc aKK adE
def G69:=fa ((fn 104 (pr (fn 10 (.int 0)) (pr Z0 (pr (.int 0) JV)))))<|fun F=>by
 rfl
def G70:=fb iq (.not (cmp .lss (.int 40) (fn 0 (fn 1 (pr Z0 (.int 6))))))<|ah fun F p0=>by
 have:=ai p0
 simp only[aa]at *;omega
def G71:=fb iq (.not (cmp .lss (.int 40) (fn 0 (fn 1 (pr Z0 (.int 7))))))<|ah fun F p0=>by
 have:=ai p0
 simp only[aa]at *;omega
def Q6:=fb iq (.not (cmp .lss (.int 40) (fn 0 (fn 1 (pr Z0 (.int 8))))))<|ah fun F p0=>by
 have:=ai p0
 simp only[aa]at *;omega
def G73:=fb iq (.not (cmp .lss (.int 40) (fn 0 (fn 1 (pr Z0 (.int 9))))))<|ah fun F p0=>by
 have:=ai p0
 simp only[aa]at *;omega
def Rc:=fb [mX] Yn<|ah fun F p0=>by
 simp only[aa,ae]at *
 obtain⟨a,b,c⟩:=ab (E.I F bm+1)
 omega
def G75:=fb iq (.not (cmp .lss (.int 40) (fn 0 (fn 1 (pr Z0 (.int 20))))))<|ah fun F p0=>by
 have:=ai p0
 simp only[aa]at *;omega
def G76:=fb iq (.not (cmp .lss (.int 40) (fn 0 (fn 1 (pr Z0 (.int 21))))))<|ah fun F p0=>by
 have:=ai p0
 simp only[aa]at *;omega
def Rd:=fb iq (.not (cmp .lss (.int 40) (fn 0 (fn 1 (pr Z0 (.int 22))))))<|ah fun F p0=>by
 have:=ai p0
 simp only[aa]at *;omega
def G78:=fb iq (.not (cmp .lss (.int 40) (fn 0 (fn 1 (pr Z0 (.int 23))))))<|ah fun F p0=>by
 have:=ai p0
 simp only[aa]at *;omega
def Rh:=fb [kd] Yn<|ah fun F p0=>by
 simp only[aa,ae]at *
 obtain⟨a,b,c⟩:=ab (E.I F bm+1)
 omega
def mw:=fb iq (.not (cmp .lss (.int 20) (fn 9 (pr (fn 1 (pr Z0 (.int 29))) (.int 5)))))<|ah fun F p0=>by
 have:=ai p0
 simp only[aa]at *;omega
def G81:=fb [Ce,gT,mX] (fn 109 (pr (fn 1 (pr Z0 (.int 6))) mY))<|aj fun F p0 p1 p2=>by
 obtain⟨g0,g1⟩:E.I F bm=(0)/\E.I F cQ=(0):=by
  simp only[aa]at *;omega
 exact gh 0 0 6 (by decide) (by rfl) g0 g1
def G82:=fb [Cf,gT,mX] (fn 109 (pr (fn 1 (pr Z0 (.int 7))) mY))<|aj fun F p0 p1 p2=>by
 obtain⟨g0,g1⟩:E.I F bm=(0)/\E.I F cQ=(1):=by
  simp only[aa]at *;omega
 exact gh 0 1 7 (by decide) (by rfl) g0 g1
def G83:=fb [Cg,gT,mX] (fn 109 (pr (fn 1 (pr Z0 (.int 8))) mY))<|aj fun F p0 p1 p2=>by
 obtain⟨g0,g1⟩:E.I F bm=(0)/\E.I F cQ=(2):=by
  simp only[aa]at *;omega
 exact gh 0 2 8 (by decide) (by rfl) g0 g1
def G84:=fb ((.not Ce)::(.not Cf)::(.not Cg)::gT::Yp) (fn 109 (pr (fn 1 (pr Z0 (.int 9))) mY))<|cH fun F p0 p1 p2 p3 p4 p5 p6=>by
 obtain⟨g0,g1⟩:E.I F bm=(0)/\E.I F cQ=(3):=by
  simp only[aa]at *;omega
 exact gh 0 3 9 (by decide) (by rfl) g0 g1
def Rl:=fb [mX] Yq<|ah fun F p0=>by
 simp only[aa,ae]at *
 obtain⟨a,b,c⟩:=ab (E.I F bm+1)
 omega
def G86:=fb (kd::Ce::iq) (fn 109 (pr (fn 1 (pr Z0 (.int 20))) mY))<|aj fun F p0 p1 p2=>by
 obtain⟨g0,g1⟩:E.I F bm=(1)/\E.I F cQ=(0):=by
  simp only[aa]at *;omega
 exact gh 1 0 20 (by decide) (by rfl) g0 g1
def G87:=fb (kd::Cf::iq) (fn 109 (pr (fn 1 (pr Z0 (.int 21))) mY))<|aj fun F p0 p1 p2=>by
 obtain⟨g0,g1⟩:E.I F bm=(1)/\E.I F cQ=(1):=by
  simp only[aa]at *;omega
 exact gh 1 1 21 (by decide) (by rfl) g0 g1
def G88:=fb (kd::Cg::iq) (fn 109 (pr (fn 1 (pr Z0 (.int 22))) mY))<|aj fun F p0 p1 p2=>by
 obtain⟨g0,g1⟩:E.I F bm=(1)/\E.I F cQ=(2):=by
  simp only[aa]at *;omega
 exact gh 1 2 22 (by decide) (by rfl) g0 g1
def G89:=fb (kd::(.not Ce)::(.not Cf)::(.not Cg)::gT::qE) (fn 109 (pr (fn 1 (pr Z0 (.int 23))) mY))<|cH fun F p0 p1 p2 p3 p4 p5 p6=>by
 obtain⟨g0,g1⟩:E.I F bm=(1)/\E.I F cQ=(3):=by
  simp only[aa]at *;omega
 exact gh 1 3 23 (by decide) (by rfl) g0 g1
def Rq:=fb [kd] Yq<|ah fun F p0=>by
 simp only[aa,ae]at *
 obtain⟨a,b,c⟩:=ab (E.I F bm+1)
 omega
def G91:=fb [(.not (cmp .lss bm (.int 2))),gT,(fn 104 (pr (var 9) (pr Z0 (pr bm JV)))),(.not (cmp .lss (.int 2) bm))] (fn 105 (pr (var 9) (pr Z0 (.int 0))))<|aw fun F p0 p1 p2 p3=>by
 have g0:E.I F bm=(2):=by
  simp only[aa]at *;omega
 have g1:E.I F _=E.I F (.int 0):=rfl;have g2:E.I F _=E.I F (.int 0):=rfl;have g3:E.I F _=E.I F (.int 0):=rfl;exact aMb p2 g0 g1 g2 g3
def G92:=fb (qF::(fn 33 (pr tj (fn 1 (pr iR dV))))::xl::xm::Yr) kf<|cR fun F p0 p1 p2 p3 p4 p5 p6 p7=>by
 have:=@Gk F _ _ _ (fn 6 (pr dV (.int 1))) _ _ _ p2 p3
 simp only[aa]at *;grind
def G93:=fb Yt (.not (cmp .lss (.ar .add .i64 dV (.int 1)) (.int 0)))<|aj fun F p0 p1 p2=>by
 simp only[aa,ae]at *
 obtain⟨a,b,c⟩:=ab (E.I F dV+1)
 omega
def G94:=fb qE (.not (cmp .lss (.ar .add .i64 cQ (.int 1)) (.int 0)))<|am fun F p0 p1=>by
 simp only[aa,ae]at *
 obtain⟨a,b,c⟩:=ab (E.I F cQ+1)
 omega
def G95:=fb (kd::qF::(fn 33 (pr tj (fn 1 (pr iR dV))))::xl::xm::Yu) kf<|cR fun F p0 p1 p2 p3 p4 p5 p6 p7=>by
 have:=@Gk F _ _ _ (fn 6 (pr dV (.int 1))) _ _ _ p3 p4
 simp only[aa]at *;grind
def G96:=fb ((.not Ch)::gT::mX::Yw) Yx<|aJ fun F p0 p1 p2 p3 p4=>by
 obtain⟨g0,g1,g2,g3,g4⟩:(0)<=E.I F bm/\(0)<=E.I F cQ/\(0)<=E.I F (.ar .add .i64 bm (.int 1))/\(0)<=(0)/\E.I F (fn 6 (pr (fn 8 (pr (.ar .add .i64 bm (.int 1)) (.int 4))) (.int 0)))=E.I F (fn 6 (pr (fn 8 (pr bm (.int 4))) cQ)):=by
  simp only[aa,ae]at *
  obtain⟨a,b,c⟩:=ab (E.I F bm+1)
  omega
 have g5:E.I F _=E.I F (.int 0):=rfl;exact agM p3 (by omega) (by omega) (by omega) (by simp_all) g4 g5
def G97:=fb (kd::(.not Ch)::gT::Yw) Yx<|aJ fun F p0 p1 p2 p3 p4=>by
 obtain⟨g0,g1,g2,g3,g4⟩:(0)<=E.I F bm/\(0)<=E.I F cQ/\(0)<=E.I F (.ar .add .i64 bm (.int 1))/\(0)<=(0)/\E.I F (fn 6 (pr (fn 8 (pr (.ar .add .i64 bm (.int 1)) (.int 4))) (.int 0)))=E.I F (fn 6 (pr (fn 8 (pr bm (.int 4))) cQ)):=by
  simp only[aa,ae]at *
  obtain⟨a,b,c⟩:=ab (E.I F bm+1)
  omega
 have g5:E.I F _=E.I F (.int 0):=rfl;exact agM p3 (by omega) (by omega) (by omega) (by simp_all) g4 g5
def G98:=fa ((fn 106 (pr (fn 10 (.int 0)) (pr Z0 (.int 0)))))<|fun F=>by
 rfl
def G99:=fb Yy (.not (cmp .lss (fn 0 iR) (.ar .add .i64 dV (.int 1))))<|am fun F p0 p1=>by
 simp only[aa,ae]at *
 obtain⟨a,b,c⟩:=ab (E.I F dV+1)
 omega
def aie:=fb qE (.not (cmp .lss (.int 4) (.ar .add .i64 cQ (.int 1))))<|am fun F p0 p1=>by
 simp only[aa,ae]at *
 obtain⟨a,b,c⟩:=ab (E.I F cQ+1)
 omega
def PD:=fb [mX] Yz<|ah fun F p0=>by
 simp only[aa,ae]at *
 obtain⟨a,b,c⟩:=ab (E.I F bm+1)
 omega
def PE:=fb [kd] Yz<|ah fun F p0=>by
 simp only[aa,ae]at *
 obtain⟨a,b,c⟩:=ab (E.I F bm+1)
 omega
def aiJ:=fb (tk::JY::(fn 33 (pr tl (fn 1 (pr (fn 1 (pr Z0 (.int 29))) (fn 6 (pr (fn 8 (pr dh (.int 5))) (.int 1)))))))::YF) kf<|bL fun F p0 p1 p2 p3 p4 p5=>by
 have:=fun a b hn=>@zF F (fn 6 (pr dh (.int 1))) _ _ _ _ p4 p3 a b hn _ _ _ _ rfl rfl rfl rfl
 simp only[aa]at *;grind
def aiU:=fb Cj (.not (cmp .lss (.ar .add .i64 dh (.int 1)) (.int 0)))<|aj fun F p0 p1 p2=>by
 have:=ai p0
 simp only[aa,ae]at *
 obtain⟨a,b,c⟩:=ab (E.I F dh+1)
 omega
def Ae:=fb iq (.not (cmp .lss (.int 30) (fn 9 (pr (fn 1 (pr Z0 (.int 0))) (.int 12)))))<|ah fun F p0=>by
 have:=ai p0
 simp only[aa]at *;omega
def ajf:=fb (qF::YG::xl::xm::JX::Yr) YH<|dP fun F p0 p1 p2 p3 p4 p5 p6 p7 p8=>by
 have:=@bJ F dV (.int 1)
 have:=@Gk F _ _ _ (.ar .add .i64 dV (.int 1)) _ _ _ p2 p3
 simp only[aa]at *;grind
def ajq:=fb ((.not qF)::gT::xl::xm::(.not (cmp .lss (fn 0 iR) dV))::qE) (fn 104 (pr tj (pr Z0 (pr bm (pr (.ar .add .i64 cQ (.int 1)) (.int 0))))))<|cH fun F p0 p1 p2 p3 p4 p5 p6=>by
 obtain⟨g0,g1,g2⟩:(0)<=E.I F cQ/\E.I F dV=E.I F (fn 0 iR)/\E.I F (.ar .add .i64 cQ (.int 1))=E.I F (fn 6 (pr cQ (.int 1))):=by
  simp only[aa,ae]at *
  obtain⟨a,b,c⟩:=ab (E.I F cQ+1)
  omega
 have g3:E.I F _=E.I F (.int 0):=rfl;exact aL9 p2 p3 (by omega) g1 g2 g3
def ajz:=fb (kd::qF::YG::xl::xm::JX::Yu) YH<|dP fun F p0 p1 p2 p3 p4 p5 p6 p7 p8=>by
 have:=@bJ F dV (.int 1)
 have:=@Gk F _ _ _ (.ar .add .i64 dV (.int 1)) _ _ _ p3 p4
 simp only[aa]at *;grind
def PJ:=fb [mX] YI<|ah fun F p0=>by
 simp only[aa,ae]at *
 obtain⟨a,b,c⟩:=ab (E.I F bm+1)
 omega
def PK:=fb [kd] YI<|ah fun F p0=>by
 simp only[aa,ae]at *
 obtain⟨a,b,c⟩:=ab (E.I F bm+1)
 omega
def aj2:=fb Cj (.not (cmp .lss (fn 9 (pr (fn 1 (pr Z0 (.int 29))) (.int 5))) (.ar .add .i64 dh (.int 1))))<|aj fun F p0 p1 p2=>by
 simp only[aa,ae]at *
 obtain⟨a,b,c⟩:=ab (E.I F dh+1)
 omega
def aj3:=fb ((.not tk)::gT::YD::YJ) (fn 105 (pr tl Ck))<|aw fun F p0 p1 p2 p3=>by
 have g0:E.I F (fn 9 (pr (fn 1 (pr Z0 (.int 29))) (.int 5)))=E.I F dh:=by
  simp only[aa]at *;omega
 grind[aMa]
def aj4:=fb Yt (cmp .lss (fn 7 (pr (fn 0 iR) (.ar .add .i64 dV (.int 1)))) (fn 7 (pr (fn 0 iR) dV)))<|aj fun F p0 p1 p2=>by
 simp only[aa,ae]at *
 obtain⟨a,b,c⟩:=ab (E.I F dV+1)
 omega
def aj5:=fb qE (cmp .lss (fn 7 (pr (.int 4) (.ar .add .i64 cQ (.int 1)))) (fn 7 (pr (.int 4) cQ)))<|am fun F p0 p1=>by
 simp only[aa,ae]at *
 obtain⟨a,b,c⟩:=ab (E.I F cQ+1)
 omega
def aj6:=fb YM (fn 105 (pr (fn 34 (pr tl (pr (fn 1 (pr (fn 1 (pr Z0 (.int 29))) (fn 6 (pr (fn 8 (pr dh (.int 5))) (.int 1))))) (fn 1 (pr (fn 1 (pr Z0 (.int 29))) (fn 6 (pr (fn 8 (pr dh (.int 5))) (.int 0)))))))) Cl))<|cH fun F p0 p1 p2 p3 p4 p5 p6=>by
 have:=ai p3
 have:=@bJ F dh (.int 1)
 have:=fun a b hn=>@zF F (.ar .add .i64 dh (.int 1)) _ _ _ _ p5 p4 a b hn _ _ _ _ rfl rfl rfl rfl
 simp only[aa]at *;grind
def aj7:=fb YN (fn 105 (pr tl Cl))<|bL fun F p0 p1 p2 p3 p4 p5=>by
 have:=ai p2
 have:=@bJ F dh (.int 1)
 have:=fun a b hn=>@zF F (.ar .add .i64 dh (.int 1)) _ _ _ _ p4 p3 a b hn _ _ _ _ rfl rfl rfl rfl
 simp only[aa]at *;grind
def aj8:=fb ((.not tk)::gT::YC::YJ) (fn 106 (pr Ci Ck))<|aw fun F p0 p1 p2 p3=>by
 have g0:E.I F (fn 9 (pr (fn 1 (pr Z0 (.int 29))) (.int 5)))=E.I F dh:=by
  simp only[aa]at *;omega
 grind[aMc]
def aj9:=fb Yy (.not (cmp .lss (fn 7 (pr (fn 0 iR) (.ar .add .i64 dV (.int 1)))) (.int 0)))<|am fun F p0 p1=>by
 simp only[aa,ae]at *
 obtain⟨a,b,c⟩:=ab (E.I F dV+1)
 omega
def aka:=fb qE (.not (cmp .lss (fn 7 (pr (.int 4) (.ar .add .i64 cQ (.int 1)))) (.int 0)))<|am fun F p0 p1=>by
 simp only[aa,ae]at *
 obtain⟨a,b,c⟩:=ab (E.I F cQ+1)
 omega
def akb:=fb YM (fn 106 (pr (fn 34 (pr Ci (pr (fn 1 (pr (fn 1 (pr Z0 (.int 29))) (fn 6 (pr (fn 8 (pr dh (.int 5))) (.int 1))))) (fn 1 (pr (fn 1 (pr Z0 (.int 29))) (fn 6 (pr (fn 8 (pr dh (.int 5))) (.int 2)))))))) Cl))<|cH fun F p0 p1 p2 p3 p4 p5 p6=>by
 have:=ai p3
 have:=@bJ F dh (.int 1)
 have:=fun a b hn=>@zF F (.ar .add .i64 dh (.int 1)) _ _ _ _ p5 p4 a b hn _ _ _ _ rfl rfl rfl rfl
 simp only[aa]at *;grind
def akc:=fb YN (fn 106 (pr Ci Cl))<|bL fun F p0 p1 p2 p3 p4 p5=>by
 have:=ai p2
 have:=@bJ F dh (.int 1)
 have:=fun a b hn=>@zF F (.ar .add .i64 dh (.int 1)) _ _ _ _ p4 p3 a b hn _ _ _ _ rfl rfl rfl rfl
 simp only[aa]at *;grind
def akd:=fa ((fn 107 (pr Z0 (.int 0))))<|fun F=>by
 rfl
def ake:=fb Cj (cmp .lss (fn 7 (pr (fn 9 (pr (fn 1 (pr Z0 (.int 29))) (.int 5))) (.ar .add .i64 dh (.int 1)))) (fn 7 (pr (fn 9 (pr (fn 1 (pr Z0 (.int 29))) (.int 5))) dh)))<|aj fun F p0 p1 p2=>by
 have:=ai p0
 simp only[aa,ae]at *
 obtain⟨a,b,c⟩:=ab (E.I F dh+1)
 omega
def akf:=fb J0 (.not (cmp .lss (.ar .sub .i64 aV (.int 1)) (.int 0)))<|aj fun F p0 p1 p2=>by
 have:=ai p0
 simp only[aa,ae]at *
 obtain⟨a,b,c⟩:=ab ((E.I F aV)-(1))
 omega
def akg:=fb [(.not gU),J1,J2,(.not (cmp .lss (fn 9 (pr (fn 1 (pr Z0 (.int 0))) (.int 12))) aV))] (.iff (cmp .eql (fn 0 lr) (fn 9 (pr (fn 1 (pr Z0 (.int 0))) (.int 12)))) (fn 108 Z0))<|aw fun F p0 p1 p2 p3=>by
 have:=@aNg F _ _ _ p2 p1
 simp only[aa]at *;grind
def akh:=fb Cj (.not (cmp .lss (fn 7 (pr (fn 9 (pr (fn 1 (pr Z0 (.int 29))) (.int 5))) (.ar .add .i64 dh (.int 1)))) (.int 0)))<|aj fun F p0 p1 p2=>by
 simp only[aa,ae]at *
 obtain⟨a,b,c⟩:=ab (E.I F dh+1)
 omega
def aki:=fb Cm (cmp .lss (.ar .sub .i64 aV (.int 1)) (fn 9 (pr (fn 1 (pr Z0 (.int 0))) (.int 12))))<|am fun F p0 p1=>by
 simp only[aa,ae]at *
 obtain⟨a,b,c⟩:=ab ((E.I F aV)-(1))
 omega
def akj:=fb J3 YR<|am fun F p0 p1=>by
 simp only[aa,ae]at *
 obtain⟨a,b,c⟩:=ab (E.I F aV+1)
 omega
def akk:=fb (gU::oQ::mZ::tn::(fn 33 (pr lr (fn 1 (pr (fn 1 (pr Z0 (.int 0))) (fn 6 (pr (fn 8 (pr aV (.int 12))) (.int 0)))))))::(fn 33 (pr xn (fn 1 (pr (fn 1 (pr Z0 (.int 0))) (fn 6 (pr (fn 8 (pr aV (.int 12))) (.int 0)))))))::(.not Cn)::xp) kf<|gX fun F p0 p1 p2 p3 p4 p5 p6 p7 p8 p9 ak=>by
 have:=@jO F _ (fn 6 (pr aV (.int 1))) _ _ _ p9 p8 p7 (.ar .sub .i64 aV (.int 1)) _ _ _ _ _ _ _ _ _ rfl rfl rfl rfl rfl rfl rfl rfl rfl
 simp only[aa]at *;grind
def akl:=fb (gU::tn::(.not tp)::xp) kf<|cH fun F p0 p1 p2 p3 p4 p5 p6=>by
 have:=@jO F _ (fn 6 (pr aV (.int 1))) _ _ _ p5 p4 p3 (.ar .sub .i64 aV (.int 1)) _ _ _ _ _ _ _ _ _ rfl rfl rfl rfl rfl rfl rfl rfl rfl
 simp only[aa]at *;grind
def akm:=fb (gU::tn::YT::xp) kf<|cH fun F p0 p1 p2 p3 p4 p5 p6=>by
 have:=@jO F _ (fn 6 (pr aV (.int 1))) _ _ _ p5 p4 p3 (.ar .sub .i64 aV (.int 1)) _ _ _ _ _ _ _ _ _ rfl rfl rfl rfl rfl rfl rfl rfl rfl
 simp only[aa]at *;grind
def akn:=fb J0 YR<|aj fun F p0 p1 p2=>by
 have:=ai p0
 simp only[aa,ae]at *
 obtain⟨a,b,c⟩:=ab (E.I F aV+1)
 omega
def ako:=fb (gU::oQ::mZ::oO::Co::(fn 33 (pr lr (fn 1 (pr (fn 1 (pr Z0 (.int 0))) (fn 6 (pr (fn 8 (pr aV (.int 12))) (.int 0)))))))::(fn 33 (pr xn (fn 1 (pr (fn 1 (pr Z0 (.int 0))) (fn 6 (pr (fn 8 (pr aV (.int 12))) (.int 0)))))))::(.not Cn)::qG) kf<|gx fun F p0 p1 p2 p3 p4 p5 p6 p7 p8 p9 ak ao ap=>by
 have:=ai ap
 have:=@kW F aV (.int 1)
 have:=@jO F _ (fn 6 (pr aV (.int 1))) _ _ _ ak p9 p8 (.ar .sub .i64 aV (.int 1)) _ _ _ _ _ _ _ _ _ rfl rfl rfl rfl rfl rfl rfl rfl rfl
 simp only[aa]at *;grind
def akp:=fb (gU::oO::(.not tp)::qG) kf<|cR fun F p0 p1 p2 p3 p4 p5 p6 p7=>by
 have:=ai p7
 have:=@kW F aV (.int 1)
 have:=@jO F _ (fn 6 (pr aV (.int 1))) _ _ _ p5 p4 p3 (.ar .sub .i64 aV (.int 1)) _ _ _ _ _ _ _ _ _ rfl rfl rfl rfl rfl rfl rfl rfl rfl
 simp only[aa]at *;grind
def akq:=fb (gU::oO::YT::qG) kf<|cR fun F p0 p1 p2 p3 p4 p5 p6 p7=>by
 have:=ai p7
 have:=@kW F aV (.int 1)
 have:=@jO F _ (fn 6 (pr aV (.int 1))) _ _ _ p5 p4 p3 (.ar .sub .i64 aV (.int 1)) _ _ _ _ _ _ _ _ _ rfl rfl rfl rfl rfl rfl rfl rfl rfl
 simp only[aa]at *;grind
def akr:=fb (gU::oQ::mZ::oO::(.not Co)::qG) kf<|eT fun F p0 p1 p2 p3 p4 p5 p6 p7 p8 p9=>by
 have:=ai p9
 have:=@kW F aV (.int 1)
 have:=@jO F _ (fn 6 (pr aV (.int 1))) _ _ _ p7 p6 p5 (.ar .sub .i64 aV (.int 1)) _ _ _ _ _ _ _ _ _ rfl rfl rfl rfl rfl rfl rfl rfl rfl
 simp only[aa]at *;grind
def aks:=fb (gU::oQ::(.not mZ)::qG) kf<|cR fun F p0 p1 p2 p3 p4 p5 p6 p7=>by
 have:=ai p7
 have:=@kW F aV (.int 1)
 have:=@jO F _ (fn 6 (pr aV (.int 1))) _ _ _ p5 p4 p3 (.ar .sub .i64 aV (.int 1)) _ _ _ _ _ _ _ _ _ rfl rfl rfl rfl rfl rfl rfl rfl rfl
 simp only[aa]at *;grind
def akt:=fb YU YV<|aj fun F p0 p1 p2=>by
 simp only[aa,ae]at *
 obtain⟨a,b,c⟩:=ab (E.I F aV+1)
 omega
def aku:=fb Cm YV<|am fun F p0 p1=>by
 simp only[aa,ae]at *
 obtain⟨a,b,c⟩:=ab (E.I F aV+1)
 omega
def akv:=fb (gU::oQ::mZ::tn::(fn 33 (pr lr (fn 1 (pr (fn 1 (pr Z0 (.int 0))) (fn 6 (pr (fn 8 (pr aV (.int 12))) (.int 0)))))))::tp::YW::xp) Cp<|gX fun F p0 p1 p2 p3 p4 p5 p6 p7 p8 p9 ak=>by
 have:=@bJ F aV (.int 1)
 have:=@jO F _ (.ar .add .i64 aV (.int 1)) _ _ _ p9 p8 p7 (.ar .sub .i64 aV (.int 1)) _ _ _ _ _ _ _ _ _ rfl rfl rfl rfl rfl rfl rfl rfl rfl
 simp only[aa]at *;grind
def akw:=fb (gU::oQ::mZ::tn::(fn 33 (pr lr (fn 1 (pr (fn 1 (pr Z0 (.int 0))) (fn 6 (pr (fn 8 (pr aV (.int 12))) (.int 0)))))))::tp::Cn::xp) Cp<|gX fun F p0 p1 p2 p3 p4 p5 p6 p7 p8 p9 ak=>by
 have:=@bJ F aV (.int 1)
 have:=@jO F _ (.ar .add .i64 aV (.int 1)) _ _ _ p9 p8 p7 (.ar .sub .i64 aV (.int 1)) _ _ _ _ _ _ _ _ _ rfl rfl rfl rfl rfl rfl rfl rfl rfl
 simp only[aa]at *;grind
def akx:=fb (gU::oQ::mZ::oO::Co::(fn 33 (pr lr (fn 1 (pr (fn 1 (pr Z0 (.int 0))) (fn 6 (pr (fn 8 (pr aV (.int 12))) (.int 0)))))))::tp::YW::qG) Cp<|gx fun F p0 p1 p2 p3 p4 p5 p6 p7 p8 p9 ak ao ap=>by
 have:=ai ap
 have:=@kW F aV (.int 1)
 have:=@bJ F aV (.int 1)
 have:=@jO F _ (.ar .add .i64 aV (.int 1)) _ _ _ ak p9 p8 (.ar .sub .i64 aV (.int 1)) _ _ _ _ _ _ _ _ _ rfl rfl rfl rfl rfl rfl rfl rfl rfl
 simp only[aa]at *;grind
def aky:=fb (gU::oQ::mZ::oO::Co::(fn 33 (pr lr (fn 1 (pr (fn 1 (pr Z0 (.int 0))) (fn 6 (pr (fn 8 (pr aV (.int 12))) (.int 0)))))))::tp::Cn::qG) Cp<|gx fun F p0 p1 p2 p3 p4 p5 p6 p7 p8 p9 ak ao ap=>by
 have:=ai ap
 have:=@kW F aV (.int 1)
 have:=@bJ F aV (.int 1)
 have:=@jO F _ (.ar .add .i64 aV (.int 1)) _ _ _ ak p9 p8 (.ar .sub .i64 aV (.int 1)) _ _ _ _ _ _ _ _ _ rfl rfl rfl rfl rfl rfl rfl rfl rfl
 simp only[aa]at *;grind
def akz:=fb J3 YX<|am fun F p0 p1=>by
 simp only[aa,ae]at *
 obtain⟨a,b,c⟩:=ab (E.I F aV+1)
 omega
def akA:=fb J0 YX<|aj fun F p0 p1 p2=>by
 have:=ai p0
 simp only[aa,ae]at *
 obtain⟨a,b,c⟩:=ab (E.I F aV+1)
 omega
def akB:=fb YU YY<|aj fun F p0 p1 p2=>by
 simp only[aa,ae]at *
 obtain⟨a,b,c⟩:=ab (E.I F aV+1)
 omega
def akC:=fb Cm YY<|am fun F p0 p1=>by
 simp only[aa,ae]at *
 obtain⟨a,b,c⟩:=ab (E.I F aV+1)
 omega
def aZ:List Fa:=[G69,G70,G71,Q6,G73,Rc,G75,G76,Rd,G78,Rh,mw,G81,G82,G83,G84,Rl,G86,G87,G88,G89,Rq,G91,G92,G93,G94,G95,G96,G97,G98,G99,aie,PD,PE,aiJ,aiU,Ae,ajf,ajq,ajz,PJ,PK,aj2,aj3,aj4,aj5,aj6,aj7,aj8,aj9,aka,akb,akc,akd,ake,akf,akg,akh,aki,akj,akk,akl,akm,akn,ako,akp,akq,akr,aks,akt,aku,akv,akw,akx,aky,akz,akA,akB,akC]
theorem aKL:aL Tryz.prog (bh (aKr)):=sc aZ (aFf) adF ([]) (by kernel_rfl) (by kernel_rfl)
def adG:Nl:=nc aKL adF
end
end Go.Proofs.YtnggbcblogpnfaaGreat.combatBlocks
