/-
  PayPays: contracts of functions, part 4.
-/
import Derived.Test.YtnnbmcfabojjjaaGreatPayPaysPartc
namespace Go.Proofs.YtnnbmcfabojjjaaGreat.payPays
open Go.ChangeShapes Go.WideShapes Go.ChangeAt Go.RowKit
open Go.SX
open Go.SX.E (fn pr cmp var)
set_option linter.unusedVariables false
set_option linter.unusedSimpArgs false
set_option maxRecDepth 100000
noncomputable section
abbrev Y0:E:=var 4
abbrev Y1:E:=cmp .lss (.int 4) (fn 9 (pr Y0 (.int 2)))
abbrev Y2:E:=.bool false
abbrev Y3:E:=var 0
abbrev Y4:E:=var 1
abbrev Y5:E:=var 2
abbrev Y6:E:=var 3
abbrev Y7:E:=var 5
abbrev Y8:E:=pr Y6 (pr Y0 Y7)
abbrev Y9:E:=pr Y5 Y8
abbrev Y10:E:=pr Y4 Y9
abbrev Y11:E:=pr Y3 Y10
abbrev Y12:E:=fn 102 Y11
abbrev jf:E:=.iff Y2 Y12
abbrev Y14:E:=cmp .lss (.int 0) (fn 9 (pr Y0 (.int 2)))
abbrev OZ:E:=cmp .lss Y6 (.int 0)
abbrev rk:E:=.not OZ
abbrev BJ:E:=.imp rk (cmp .eql (fn 9 (pr Y0 (.int 2))) (.int 0))
abbrev O4:E:=.not Y1
abbrev O6:E:=cmp .lss (.int 1) Y6
abbrev Y20:E:=cmp .lss (.int 399) Y5
abbrev Pa:E:=cmp .lss Y5 (.int 0)
abbrev ky:E:=.not Pa
abbrev Y23:E:=cmp .lss (.int 500) Y4
abbrev Y24:E:=cmp .lss Y4 (.int 1)
abbrev Y25:E:=cmp .lss (.int 1) Y3
abbrev Y26:E:=cmp .lss Y3 (.int 0)
abbrev Y27:E:=.not Y26
abbrev Y28:=[Y27]
abbrev Y29:List E:=(.not Y25)::Y28
abbrev Y30:List E:=(.not Y24)::Y29
abbrev Y31:List E:=(.not Y23)::Y30
abbrev Y32:=ky::Y31
abbrev Y33:List E:=(.not Y20)::Y32
abbrev Ph:E:=cmp .lss Y6 (.int (-1))
abbrev xh:E:=.imp Y7 rk
abbrev aQ:E:=var 8
abbrev lz:E:=cmp .lss aQ (fn 9 (pr Y0 (.int 2)))
abbrev Y38:E:=cmp .lss (fn 1 (pr Y0 (fn 6 (pr (fn 8 (pr aQ (.int 2))) (.int 0))))) (.int 0)
abbrev xi:E:=.not Y38
abbrev Y40:E:=cmp .lss (fn 1 (pr Y0 (fn 6 (pr (fn 8 (pr aQ (.int 2))) (.int 1))))) (.int 0)
abbrev Hb:E:=.not Y40
abbrev Hc:E:=cmp .lss (.int 1) (fn 1 (pr Y0 (fn 6 (pr (fn 8 (pr aQ (.int 2))) (.int 1)))))
abbrev Y43:E:=cmp .lss (.int 0) (fn 1 (pr Y0 (fn 6 (pr (fn 8 (pr aQ (.int 2))) (.int 0)))))
abbrev Y44:E:=cmp .eql (fn 1 (pr Y0 (fn 6 (pr (fn 8 (pr aQ (.int 2))) (.int 1))))) (.int 0)
abbrev Pi:E:=cmp .lss (.int 500) (fn 1 (pr Y0 (fn 6 (pr (fn 8 (pr aQ (.int 2))) (.int 0)))))
abbrev Y46:E:=cmp .lss aQ (.int 0)
abbrev uq:E:=.not Y46
abbrev Y48:List E:=(.not Ph)::Y33
abbrev Y49:List E:=(.not O6)::Y48
abbrev Y50:=O4::Y49
abbrev n7:=[uq]
abbrev Y52:E:=pr Y0 aQ
abbrev Y53:E:=fn 101 Y52
abbrev Y54:=[O4]
abbrev Pj:=uq::Y54
abbrev Y56:E:=cmp .lss (.ar .add .i64 aQ (.int 1)) (.int 0)
abbrev Pk:E:=.not Y56
abbrev Y58:=Y53::Pj
abbrev Y59:List E:=(.not Pi)::Y58
abbrev Y60:E:=pr Y0 (.ar .add .i64 aQ (.int 1))
abbrev Y61:E:=fn 101 Y60
abbrev pZ:E:=cmp .lss aQ (fn 0 Y3)
abbrev Y63:E:=cmp .lss (.int 1000) (fn 0 Y3)
abbrev Y64:E:=.not Y63
abbrev Y65:=[Y64]
abbrev Y66:=uq::Y65
abbrev Y67:=pZ::Y66
abbrev kz:E:=var 9
abbrev Pl:E:=cmp .eql kz (fn 131 (pr Y3 (pr Y4 aQ)))
abbrev Y70:E:=cmp .lss aQ kz
abbrev Pm:E:=.not Y70
abbrev Y72:E:=cmp .eql (fn 1 (pr Y3 aQ)) Y4
abbrev Y73:E:=cmp .lss kz (.int 0)
abbrev Y74:E:=.not Y73
abbrev Y75:=Pl::Y66
abbrev Y76:=Y74::Y75
abbrev Pn:=Pm::Y76
abbrev Y78:=pZ::Pn
abbrev Hd:E:=cmp .lss aQ (fn 9 (pr (fn 1 (pr Y3 (.int 0))) (.int 12)))
abbrev Y80:E:=cmp .eql (fn 1 (pr (fn 1 (pr Y3 (.int 0))) (fn 6 (pr (fn 8 (pr aQ (.int 12))) (.int 0))))) Y4
abbrev Po:E:=cmp .eql (fn 120 (pr Y3 (pr Y4 aQ))) (.int (-1))
abbrev n8:E:=fn 117 Y3
abbrev He:=Hd::n7
abbrev gQ:=[n8]
abbrev Y85:E:=cmp .eql Y4 (.int 0)
abbrev Y86:E:=cmp .lss (fn 0 (fn 1 (pr Y3 (.int 6)))) Y6
abbrev Y87:E:=.not Y86
abbrev Y88:E:=cmp .eql Y6 (fn 121 (pr (fn 1 (pr Y3 (.int 6))) Y5))
abbrev Y89:E:=cmp .lss (fn 0 (fn 1 (pr Y3 (.int 7)))) Y0
abbrev Y90:E:=.not Y89
abbrev Hf:E:=.not (cmp .lss Y0 (.int 0))
abbrev Y92:E:=cmp .eql Y0 (fn 121 (pr (fn 1 (pr Y3 (.int 7))) Y5))
abbrev Y93:E:=cmp .lss (fn 0 (fn 1 (pr Y3 (.int 8)))) Y7
abbrev Y94:E:=.not Y93
abbrev Y95:E:=cmp .lss Y7 (.int 0)
abbrev mD:E:=.not Y95
abbrev Y97:E:=cmp .eql Y7 (fn 121 (pr (fn 1 (pr Y3 (.int 8))) Y5))
abbrev dB:E:=var 6
abbrev Y99:E:=cmp .lss (fn 0 (fn 1 (pr Y3 (.int 9)))) dB
abbrev aTB:E:=.not Y99
abbrev age:E:=cmp .lss dB (.int 0)
abbrev pV:E:=.not age
abbrev aTC:E:=cmp .eql dB (fn 121 (pr (fn 1 (pr Y3 (.int 9))) Y5))
abbrev aTD:=aTC::gQ
abbrev aTE:=pV::aTD
abbrev aTF:=aTB::aTE
abbrev aTG:=Y97::aTF
abbrev aTH:=mD::aTG
abbrev aTI:=Y94::aTH
abbrev aTJ:=Y92::aTI
abbrev aTK:=Hf::aTJ
abbrev aTL:=Y90::aTK
abbrev aTM:=Y88::aTL
abbrev aTN:=rk::aTM
abbrev OX:=Y87::aTN
abbrev agf:E:=cmp .eql (.ar .add .i64 (.ar .add .i64 (.ar .add .i64 (.ar .add .i64 (.int 0) Y6) Y0) Y7) dB) (fn 6 (pr (fn 132 (pr Y3 (pr Y4 (pr (.int 4) Y5)))) (fn 133 (pr Y3 (pr Y4 (pr Y5 (.int 0)))))))
abbrev aTO:E:=cmp .lss (fn 0 (fn 1 (pr Y3 (.int 20)))) Y6
abbrev agh:E:=.not aTO
abbrev agi:E:=cmp .eql Y6 (fn 121 (pr (fn 1 (pr Y3 (.int 20))) Y5))
abbrev aTP:E:=cmp .lss (fn 0 (fn 1 (pr Y3 (.int 21)))) Y0
abbrev agj:E:=.not aTP
abbrev agk:E:=cmp .eql Y0 (fn 121 (pr (fn 1 (pr Y3 (.int 21))) Y5))
abbrev aTQ:E:=cmp .lss (fn 0 (fn 1 (pr Y3 (.int 22)))) Y7
abbrev agl:E:=.not aTQ
abbrev agm:E:=cmp .eql Y7 (fn 121 (pr (fn 1 (pr Y3 (.int 22))) Y5))
abbrev aTR:E:=cmp .lss (fn 0 (fn 1 (pr Y3 (.int 23)))) dB
abbrev agn:E:=.not aTR
abbrev ago:E:=cmp .eql dB (fn 121 (pr (fn 1 (pr Y3 (.int 23))) Y5))
abbrev agp:E:=cmp .lss Y4 (.int 0)
abbrev GS:E:=.not agp
abbrev aTS:E:=cmp .lss (.ar .add .i64 (.ar .add .i64 (.ar .add .i64 (.ar .add .i64 (.int 0) Y6) Y0) Y7) dB) (.int 0)
abbrev agq:E:=.not aTS
abbrev aTT:=agn::pV::ago::gQ
abbrev aTU:=agm::aTT
abbrev aTV:=mD::aTU
abbrev aTW:=agl::aTV
abbrev aTX:=agk::aTW
abbrev aTY:=Hf::aTX
abbrev aTZ:=agj::aTY
abbrev aT0:=agi::aTZ
abbrev aT1:=rk::aT0
abbrev agr:=agh::aT1
abbrev aT2:E:=cmp .lss (.int 160) (.ar .add .i64 (.ar .add .i64 (.ar .add .i64 (.ar .add .i64 (.int 0) Y6) Y0) Y7) dB)
abbrev ags:E:=.not aT2
abbrev bu:E:=var 16
abbrev iR:E:=cmp .lss bu (fn 9 (pr (fn 1 (pr Y3 (.int 29))) (.int 5)))
abbrev aT3:E:=cmp .lss bu (.int 0)
abbrev agt:E:=.not aT3
abbrev OY:=[agt]
abbrev aT4:=iR::OY
abbrev GU:=n8::aT4
abbrev GV:E:=.not iR
abbrev fw:E:=var 17
abbrev O0:E:=cmp .eql fw (fn 6 (pr (fn 132 (pr Y3 (pr Y4 (pr (.int 4) Y5)))) (fn 133 (pr Y3 (pr Y4 (pr Y5 bu))))))
abbrev aT5:E:=cmp .lss (fn 9 (pr (fn 1 (pr Y3 (.int 29))) (.int 5))) bu
abbrev O1:E:=.not aT5
abbrev aT6:E:=cmp .lss (fn 6 (pr (.int 160) bu)) fw
abbrev O2:E:=.not aT6
abbrev agu:E:=cmp .eql (fn 1 (pr (fn 1 (pr Y3 (.int 29))) (fn 6 (pr (fn 8 (pr bu (.int 5))) (.int 3))))) (.int (-1))
abbrev agv:E:=cmp .eql (fn 1 (pr (fn 1 (pr Y3 (.int 29))) (fn 6 (pr (fn 8 (pr bu (.int 5))) (.int 1))))) Y5
abbrev agw:E:=cmp .eql (fn 1 (pr (fn 1 (pr Y3 (.int 29))) (fn 6 (pr (fn 8 (pr bu (.int 5))) (.int 0))))) Y4
abbrev aT7:E:=cmp .lss fw (.int 0)
abbrev agx:E:=.not aT7
abbrev BI:=O0::agt::gQ
abbrev aT8:=agx::BI
abbrev agy:=O2::aT8
abbrev O3:E:=cmp .eql fw (fn 6 (pr (fn 132 (pr Y3 (pr Y4 (pr (.int 4) Y5)))) (fn 133 (pr Y3 (pr Y4 (pr Y5 (.ar .add .i64 bu (.int 1))))))))
abbrev agz:=iR::agy
abbrev aT9:E:=cmp .lss (.ar .add .i64 fw (.int 1)) (.int 0)
abbrev agA:E:=.not aT9
abbrev jM:E:=.not (cmp .lss Y3 (.int 1))
abbrev jN:E:=.not (cmp .lss Y4 (.int (-1)))
abbrev agB:E:=cmp .lss (.int 1) Y5
abbrev ip:E:=var 7
abbrev aUa:E:=pr ip aQ
abbrev aUb:E:=pr dB aUa
abbrev aUc:E:=pr Y7 aUb
abbrev aUd:E:=pr Y0 aUc
abbrev aUe:E:=pr Y6 aUd
abbrev aUf:E:=pr Y5 aUe
abbrev aUg:E:=pr Y4 aUf
abbrev aUh:E:=pr Y3 aUg
abbrev agC:E:=fn 137 aUh
abbrev lw:E:=.iff Y2 agC
abbrev mC:E:=.not agB
abbrev n6:E:=cmp .eql Y6 (.int 0)
abbrev pW:E:=cmp .eql Y0 (.int 0)
abbrev aUi:E:=cmp .lss (.int 500) Y3
abbrev O5:E:=.not aUi
abbrev O7:E:=cmp .lss (.int 399) Y4
abbrev agD:=[O5,(.not O7)]
abbrev agE:E:=cmp .lss ip (.int 0)
abbrev GW:E:=.not agE
abbrev agF:E:=cmp .lss (.int 99) Y7
abbrev agG:E:=cmp .lss (.int 99) dB
abbrev agH:E:=cmp .lss (.int 99) ip
abbrev aUj:List E:=[(.not agG),(.not agH)]
abbrev agI:List E:=(.not agF)::aUj
abbrev aUk:E:=cmp .lss (.int 99) aQ
abbrev aUl:E:=.not aUk
abbrev agJ:E:=.iff aUl agC
abbrev xe:E:=cmp .lss (fn 1 (pr (fn 1 (pr Y3 (.int 29))) (fn 6 (pr (fn 8 (pr bu (.int 5))) (.int 3))))) (.int 0)
abbrev xf:E:=var 18
abbrev O8:E:=cmp .eql xf (fn 120 (pr Y3 (pr (fn 1 (pr (fn 1 (pr Y3 (.int 29))) (fn 6 (pr (fn 8 (pr bu (.int 5))) (.int 1))))) (fn 9 (pr (fn 1 (pr Y3 (.int 0))) (.int 12))))))
abbrev agK:E:=cmp .eql (fn 1 (pr (fn 1 (pr Y3 (.int 0))) (fn 6 (pr (fn 8 (pr xf (.int 12))) (.int 1))))) (fn 1 (pr (fn 1 (pr Y3 (.int 29))) (fn 6 (pr (fn 8 (pr bu (.int 5))) (.int 2)))))
abbrev agL:E:=fn 123 (pr Y3 bu)
abbrev O9:=agL::OY
abbrev xg:E:=.iff Y2 (fn 125 Y3)
abbrev agM:E:=cmp .lss xf (.int 0)
abbrev agN:E:=cmp .eql fw (fn 6 (pr (fn 134 (pr Y3 (.int 8))) (fn 135 (pr Y3 bu))))
abbrev agO:=[O1]
abbrev agP:E:=fn 123 (pr Y3 (fn 9 (pr (fn 1 (pr Y3 (.int 29))) (.int 5))))
abbrev Pb:=agN::OY
abbrev aUm:E:=cmp .lss (fn 6 (pr (.int 320) bu)) fw
abbrev agQ:E:=.not aUm
abbrev aUn:=agx::Pb
abbrev aUo:=agQ::aUn
abbrev agR:=n8::aUo
abbrev agS:=iR::agR
abbrev bj:E:=var 24
abbrev pX:E:=cmp .lss bj (fn 9 (pr (fn 1 (pr Y3 (.int 0))) (.int 12)))
abbrev BL:E:=cmp .lss (.int 0) bj
abbrev GX:=[pX,BL]
abbrev Pc:=n8::GX
abbrev pY:E:=var 26
abbrev rl:E:=.iff pY (fn 137 (pr (fn 1 (pr (fn 1 (pr Y3 (.int 0))) (fn 6 (pr (fn 8 (pr bj (.int 12))) (.int 0))))) (pr (fn 1 (pr (fn 1 (pr Y3 (.int 0))) (fn 6 (pr (fn 8 (pr bj (.int 12))) (.int 1))))) (pr (fn 1 (pr (fn 1 (pr Y3 (.int 0))) (fn 6 (pr (fn 8 (pr bj (.int 12))) (.int 2))))) (pr (fn 1 (pr (fn 1 (pr Y3 (.int 0))) (fn 6 (pr (fn 8 (pr bj (.int 12))) (.int 3))))) (pr (fn 1 (pr (fn 1 (pr Y3 (.int 0))) (fn 6 (pr (fn 8 (pr bj (.int 12))) (.int 4))))) (pr (fn 1 (pr (fn 1 (pr Y3 (.int 0))) (fn 6 (pr (fn 8 (pr bj (.int 12))) (.int 5))))) (pr (fn 1 (pr (fn 1 (pr Y3 (.int 0))) (fn 6 (pr (fn 8 (pr bj (.int 12))) (.int 6))))) (pr (fn 1 (pr (fn 1 (pr Y3 (.int 0))) (fn 6 (pr (fn 8 (pr bj (.int 12))) (.int 7))))) (fn 1 (pr (fn 1 (pr Y3 (.int 0))) (fn 6 (pr (fn 8 (pr bj (.int 12))) (.int 8))))))))))))))
abbrev Pd:E:=fn 124 (pr Y3 bj)
abbrev agT:=n8::O9
abbrev agU:E:=fn 123 (pr Y3 (.ar .add .i64 bu (.int 1)))
abbrev Pe:E:=.not BL
abbrev GY:E:=cmp .eql (var 27) (fn 122 (pr Y3 (pr (fn 1 (pr (fn 1 (pr Y3 (.int 0))) (fn 6 (pr (fn 8 (pr bj (.int 12))) (.int 2))))) (fn 1 (pr (fn 1 (pr Y3 (.int 0))) (fn 6 (pr (fn 8 (pr bj (.int 12))) (.int 0))))))))
abbrev GZ:E:=cmp .eql (var 27) (.int 1)
abbrev aUp:E:=cmp .lss bj (.int 0)
abbrev agV:E:=.not aUp
abbrev agW:=[agV]
abbrev agX:=Pd::agW
abbrev Pf:=Pe::agW
abbrev aUq:E:=cmp .lss (.ar .add .i64 bj (.int 1)) (.int 0)
abbrev agY:E:=.not aUq
abbrev Pg:E:=cmp .lss (fn 1 (pr (fn 1 (pr Y3 (.int 0))) (fn 6 (pr (fn 8 (pr (.ar .sub .i64 bj (.int 1)) (.int 12))) (.int 0))))) (fn 1 (pr (fn 1 (pr Y3 (.int 0))) (fn 6 (pr (fn 8 (pr bj (.int 12))) (.int 0)))))
abbrev aUr:=agV::gQ
abbrev Ha:=Pd::aUr
abbrev agZ:=pX::Pf
abbrev aUs:E:=cmp .lss (fn 9 (pr (fn 1 (pr Y3 (.int 0))) (.int 12))) (.ar .add .i64 bj (.int 1))
abbrev ag0:E:=.not aUs
abbrev aUt:E:=pr Y3 (.ar .add .i64 bj (.int 1))
abbrev ag1:E:=fn 124 aUt
abbrev ag2:E:=cmp .lss (fn 7 (pr (fn 9 (pr (fn 1 (pr Y3 (.int 0))) (.int 12))) (.ar .add .i64 bj (.int 1)))) (fn 7 (pr (fn 9 (pr (fn 1 (pr Y3 (.int 0))) (.int 12))) bj))
abbrev aUu:E:=cmp .lss (fn 7 (pr (fn 9 (pr (fn 1 (pr Y3 (.int 0))) (.int 12))) (.ar .add .i64 bj (.int 1)))) (.int 0)
abbrev ag3:E:=.not aUu
def aA0:=fb [Y1] jf<|aj fun F p0=>by
 have:=(@dF F Y6 Y4 Y3 Y7 Y5 Y0)
 simp only[aa]at *;grind
def aA1:=fb [(.not Y14)] BJ<|aj fun F p0=>by
 have:=yB F (pr Y0 (.int 2))
 simp only[aa]at *;grind
def aA2:=fb (rk::Y14::O4::(.not O6)::Y33) jf<|fA fun F p0 p1 p2 p3 p4 p5 p6 p7 p8 p9=>by
 have:=(@dF F Y6 Y4 Y3 Y7 Y5 Y0)
 simp only[aa]at *;grind
def aA3:=fb [OZ,Y7] jf<|ai fun F p0 p1=>by
 have:=(@dF F Y6 Y4 Y3 Y7 Y5 Y0)
 simp only[aa]at *;grind
def aA4:=fb [OZ,(.not Ph)] BJ<|ai fun F p0 p1=>by
 simp_all
def aA5:=fb [O6] jf<|aj fun F p0=>by
 have:=(@dF F Y6 Y4 Y3 Y7 Y5 Y0)
 simp only[aa]at *;grind
def aA6:=fb [Ph] jf<|aj fun F p0=>by
 have:=(@dF F Y6 Y4 Y3 Y7 Y5 Y0)
 simp only[aa]at *;grind
def aA7:=fb [Y20] jf<|aj fun F p0=>by
 have:=(@dF F Y6 Y4 Y3 Y7 Y5 Y0)
 simp only[aa]at *;grind
def aA8:=fb [Pa] jf<|aj fun F p0=>by
 have:=(@dF F Y6 Y4 Y3 Y7 Y5 Y0)
 simp only[aa]at *;grind
def aA9:=fb [Y23] jf<|aj fun F p0=>by
 have:=(@dF F Y6 Y4 Y3 Y7 Y5 Y0)
 simp only[aa]at *;grind
def aBa:=fb [Y24] jf<|aj fun F p0=>by
 have:=(@dF F Y6 Y4 Y3 Y7 Y5 Y0)
 simp only[aa]at *;grind
def aBb:=fb [Y25] jf<|aj fun F p0=>by
 have:=(@dF F Y6 Y4 Y3 Y7 Y5 Y0)
 simp only[aa]at *;grind
def aBc:=fb [rk] xh<|aj fun F p0=>by
 simp_all
def aBd:=fb [(.not Y7)] xh<|aj fun F p0=>by
 simp_all
def aBe:=fa ((fn 101 (pr Y0 (.int 0))))<|fun F=>by
 rfl
def aBf:=fb (lz::xi::Hb::(.not Hc)::Y43::(.not Y44)::(.not Pi)::uq::xh::Y50) jf<|CV fun F p0 p1 p2 p3 p4 p5 p6 p7 p8 p9 ao au az aE aM aN bb bl=>by
 have:=(@dF F Y6 Y4 Y3 Y7 Y5 Y0)
 have:=fun h0 h1=>@oO F _ _ (fn 9 (pr Y0 (.int 2))) h0 h1 (fn 1 _) (fn 1 (pr Y0 (fn 6 (pr (fn 8 (pr aQ _)) _)))) rfl rfl
 simp only[aa]at *;grind
def aBg:=fb [BJ] BJ<|aj fun F p0=>by
 omega
def aBh:=fb (lz::xi::Hb::Hc::n7) jf<|aw fun F p0 p1 p2 p3 p4=>by
 have:=(@dF F Y6 Y4 Y3 Y7 Y5 Y0)
 have:=fun h0 h1=>@oO F _ _ (fn 9 (pr Y0 (.int 2))) h0 h1 _ (fn 1 (pr Y0 (fn 6 (pr (fn 8 (pr aQ _)) _)))) rfl rfl
 simp only[aa]at *;grind
def aBi:=fb (lz::xi::Y40::n7) jf<|am fun F p0 p1 p2 p3=>by
 have:=(@dF F Y6 Y4 Y3 Y7 Y5 Y0)
 have:=fun h0 h1=>@oO F _ _ (fn 9 (pr Y0 (.int 2))) h0 h1 _ (fn 1 (pr Y0 (fn 6 (pr (fn 8 (pr aQ _)) _)))) rfl rfl
 simp only[aa]at *;grind
def aBj:=fb (lz::xi::Pi::n7) jf<|am fun F p0 p1 p2 p3=>by
 have:=(@dF F Y6 Y4 Y3 Y7 Y5 Y0)
 have:=fun h0 h1=>@oO F _ _ (fn 9 (pr Y0 (.int 2))) h0 h1 (fn 1 _) (fn 1 (pr Y0 (fn 6 (pr (fn 8 (pr aQ _)) _)))) rfl rfl
 simp only[aa]at *;grind
def aBk:=fb (lz::Y38::n7) jf<|ag fun F p0 p1 p2=>by
 have:=(@dF F Y6 Y4 Y3 Y7 Y5 Y0)
 have:=fun h0 h1=>@oO F _ _ (fn 9 (pr Y0 (.int 2))) h0 h1 (fn 1 _) (fn 1 (pr Y0 (fn 6 (pr (fn 8 (pr aQ _)) _)))) rfl rfl
 simp only[aa]at *;grind
def aBl:=fb ((.not lz)::Y53::xh::BJ::Y50) (.iff (.bool true) Y12)<|jk fun F p0 p1 p2 p3 p4 p5 p6 p7 p8 p9 ao au az=>by
 have:=(@dF F Y6 Y4 Y3 Y7 Y5 Y0)
 have:=fun h1=>@aoT F _ _ (fn 9 (pr Y0 (.int 2))) p1 h1
 simp only[aa]at *;grind
def aBm:=fb [xh] xh<|aj fun F p0=>by
 omega
def aBn:=fb (lz::Pj) Pk<|ag fun F p0 p1 p2=>by
 simp only[aa,ab]at *
 obtain⟨a,b,c⟩:=ae (E.I F aQ+1)
 omega
def aBo:=fb (lz::n7) (.not (cmp .lss (fn 9 (pr Y0 (.int 2))) (.ar .add .i64 aQ (.int 1))))<|ai fun F p0 p1=>by
 simp only[aa,ab]at *
 obtain⟨a,b,c⟩:=ae (E.I F aQ+1)
 omega
def aBp:=fb (lz::xi::Hb::(.not Hc)::Y44::Y59) Y61<|b8 fun F p0 p1 p2 p3 p4 p5 p6 p7 p8=>by
 have:=@ay F aQ (.int 1)
 have:=fun h0 hm=>@KI F _ (.ar .add .i64 aQ (.int 1)) _ p6 h0 hm (fn 1 _) (fn 1 _) rfl rfl
 simp only[aa]at *;grind
def aBq:=fb (lz::xi::Hb::(.not Hc)::(.not Y43)::Y59) Y61<|b8 fun F p0 p1 p2 p3 p4 p5 p6 p7 p8=>by
 have:=@ay F aQ (.int 1)
 have:=fun h0 hm=>@KI F _ (.ar .add .i64 aQ (.int 1)) _ p6 h0 hm (fn 1 _) (fn 1 _) rfl rfl
 simp only[aa]at *;grind
def aBr:=fb (lz::Pj) (cmp .lss (fn 7 (pr (fn 9 (pr Y0 (.int 2))) (.ar .add .i64 aQ (.int 1)))) (fn 7 (pr (fn 9 (pr Y0 (.int 2))) aQ)))<|ag fun F p0 p1 p2=>by
 simp only[aa,ab]at *
 obtain⟨a,b,c⟩:=ae (E.I F aQ+1)
 omega
def aBs:=fb (lz::n7) (.not (cmp .lss (fn 7 (pr (fn 9 (pr Y0 (.int 2))) (.ar .add .i64 aQ (.int 1)))) (.int 0)))<|ai fun F p0 p1=>by
 simp only[aa,ab]at *
 obtain⟨a,b,c⟩:=ae (E.I F aQ+1)
 omega
def di:List Fa:=[aA0,aA1,aA2,aA3,aA4,aA5,aA6,aA7,aA8,aA9,aBa,aBb,Yb,aBc,aBd,aBe,aBf,aBg,aBh,aBi,aBj,aBk,aBl,aBm,aBn,aBo,aBp,aBq,aBr,aBs]
theorem a2M:aI Tryz.prog (aX (a1V)):=sc di (aVR) alH ([]) (by kernel_rfl) (by kernel_rfl)
def alI:Nl:=nc a2M alH
def aBt:=fb Y67 Pk<|ag fun F p0 p1 p2=>by
 simp only[aa,ab]at *
 obtain⟨a,b,c⟩:=ae (E.I F aQ+1)
 omega
def aBu:=fb [(.not pZ),Pl] (cmp .eql kz (fn 121 (pr Y3 Y4)))<|ai fun F p0 p1=>by
 have:=@a4I F Y3 Y4 aQ
 simp only[aa]at *;grind
def Yn:=fb (pZ::n7) (.not (cmp .lss (fn 0 Y3) (.ar .add .i64 aQ (.int 1))))<|ai fun F p0 p1=>by
 simp only[aa,ab]at *
 obtain⟨a,b,c⟩:=ae (E.I F aQ+1)
 omega
def aBv:=fb [(.not pZ),Pm,Pl,(.not (cmp .lss (fn 0 Y3) aQ))] (.not (cmp .lss (fn 0 Y3) kz))<|am fun F p0 p1 p2 p3=>by
 simp only[aa]at *;omega
def aBw:=fb (pZ::Y72::Pn) (cmp .eql (.ar .add .i64 kz (.int 1)) (fn 131 (pr Y3 (pr Y4 (.ar .add .i64 aQ (.int 1))))))<|bL fun F p0 p1 p2 p3 p4 p5 p6=>by
 have:=@ay F aQ (.int 1)
 have:=@TN F Y3 Y4 aQ (.ar .add .i64 aQ (.int 1))
 simp only[aa,ab]at *
 obtain⟨a,b,c⟩:=ae (E.I F kz+1)
 omega
def aBx:=fb (pZ::(.not Y72)::Pn) (cmp .eql kz (fn 131 (pr Y3 (pr Y4 (.ar .add .i64 aQ (.int 1))))))<|bL fun F p0 p1 p2 p3 p4 p5 p6=>by
 have:=@ay F aQ (.int 1)
 have:=@TN F Y3 Y4 aQ (.ar .add .i64 aQ (.int 1))
 simp only[aa]at *;grind
def aBy:=fb Y78 (.not (cmp .lss (.ar .add .i64 kz (.int 1)) (.int 0)))<|bq fun F p0 p1 p2 p3 p4 p5=>by
 simp only[aa,ab]at *
 obtain⟨a,b,c⟩:=ae (E.I F kz+1)
 omega
def aBz:=fb (pZ::Pm::Y75) (.not (cmp .lss (.ar .add .i64 aQ (.int 1)) kz))<|aw fun F p0 p1 p2 p3 p4=>by
 simp only[aa,ab]at *
 obtain⟨a,b,c⟩:=ae (E.I F aQ+1)
 omega
def aBA:=fb Y78 (.not (cmp .lss (.ar .add .i64 aQ (.int 1)) (.ar .add .i64 kz (.int 1))))<|bq fun F p0 p1 p2 p3 p4 p5=>by
 simp only[aa,ab]at *
 obtain⟨a,b,c⟩:=ae (E.I F aQ+1)
 obtain⟨d,f,g⟩:=ae (E.I F kz+1)
 omega
def aBB:=fb Y67 (cmp .lss (fn 7 (pr (fn 0 Y3) (.ar .add .i64 aQ (.int 1)))) (fn 7 (pr (fn 0 Y3) aQ)))<|ag fun F p0 p1 p2=>by
 simp only[aa,ab]at *
 obtain⟨a,b,c⟩:=ae (E.I F aQ+1)
 omega
def Yo:=fb (pZ::n7) (.not (cmp .lss (fn 7 (pr (fn 0 Y3) (.ar .add .i64 aQ (.int 1)))) (.int 0)))<|ai fun F p0 p1=>by
 simp only[aa,ab]at *
 obtain⟨a,b,c⟩:=ae (E.I F aQ+1)
 omega
def dJ:List Fa:=[Yz,aBt,aBu,Yn,aBv,aBw,aBx,aBy,aBz,aBA,aBB,Yo]
theorem a2N:aI Tryz.prog (aX (a1F)):=sc dJ (aVJ) alI ([]) (by kernel_rfl) (by kernel_rfl)
def alJ:Nl:=nc a2N alI
def aBC:=fa ((cmp .eql (fn 120 (pr Y3 (pr Y4 (.int 0)))) (.int (-1))))<|fun F=>by
 rfl
def aBD:=fb (Hd::Y80::Po::n7) (cmp .eql aQ (fn 120 (pr Y3 (pr Y4 (fn 9 (pr (fn 1 (pr Y3 (.int 0))) (.int 12)))))))<|am fun F p0 p1 p2 p3=>by
 have:=fun h=>@aoY F Y4 _ (fn 6 (pr aQ (.int 1))) _ (fn 9 (pr (fn 1 (pr Y3 (.int 0))) (.int 12))) h (fn 1 (pr (fn 1 (pr Y3 _)) (fn 6 (pr (fn 8 (pr aQ _)) _)))) rfl
 simp only[aa]at *;grind
def aBE:=fb (n8::He) Pk<|ag fun F p0 p1 p2=>by
 have:=ap p0
 simp only[aa,ab]at *
 obtain⟨a,b,c⟩:=ae (E.I F aQ+1)
 omega
def aBF:=fb [(.not Hd),Po,(.not (cmp .lss (fn 9 (pr (fn 1 (pr Y3 (.int 0))) (.int 12))) aQ))] (cmp .eql (fn 120 (pr Y3 (pr Y4 (fn 9 (pr (fn 1 (pr Y3 (.int 0))) (.int 12)))))) (.int (-1)))<|ag fun F p0 p1 p2=>by
 have:=@a4H F Y4 aQ (fn 9 (pr (fn 1 (pr Y3 (.int 0))) (.int 12))) Y3
 simp only[aa]at *;grind
def aBG:=fb He (.not (cmp .lss (fn 9 (pr (fn 1 (pr Y3 (.int 0))) (.int 12))) (.ar .add .i64 aQ (.int 1))))<|ai fun F p0 p1=>by
 simp only[aa,ab]at *
 obtain⟨a,b,c⟩:=ae (E.I F aQ+1)
 omega
def aBH:=fb (Hd::(.not Y80)::Po::uq::gQ) (cmp .eql (fn 120 (pr Y3 (pr Y4 (.ar .add .i64 aQ (.int 1))))) (.int (-1)))<|aw fun F p0 p1 p2 p3 p4=>by
 have:=ap p4
 have:=@ay F aQ (.int 1)
 have:=fun h=>@aoY F Y4 _ (.ar .add .i64 aQ (.int 1)) _ (fn 9 (pr (fn 1 (pr Y3 (.int 0))) (.int 12))) h (fn 1 (pr (fn 1 (pr Y3 _)) (fn 6 (pr (fn 8 (pr aQ _)) _)))) rfl
 simp only[aa]at *;grind
def aBI:=fb (n8::He) (cmp .lss (fn 7 (pr (fn 9 (pr (fn 1 (pr Y3 (.int 0))) (.int 12))) (.ar .add .i64 aQ (.int 1)))) (fn 7 (pr (fn 9 (pr (fn 1 (pr Y3 (.int 0))) (.int 12))) aQ)))<|ag fun F p0 p1 p2=>by
 have:=ap p0
 simp only[aa,ab]at *
 obtain⟨a,b,c⟩:=ae (E.I F aQ+1)
 omega
def aBJ:=fb He (.not (cmp .lss (fn 7 (pr (fn 9 (pr (fn 1 (pr Y3 (.int 0))) (.int 12))) (.ar .add .i64 aQ (.int 1)))) (.int 0)))<|ai fun F p0 p1=>by
 simp only[aa,ab]at *
 obtain⟨a,b,c⟩:=ae (E.I F aQ+1)
 omega
def eJ:List Fa:=[LK,aBC,aBD,aBE,aBF,aBG,aBH,aBI,aBJ]
theorem a2O:aI Tryz.prog (aX (a1S)):=sc eJ (aVO) alJ ([]) (by kernel_rfl) (by kernel_rfl)
def alK:Nl:=nc (akX (mss:=[yw,[]]) a2O) alJ
def aBK:=fb gQ (.not (cmp .lss (.int 1000) (fn 0 (fn 1 (pr Y3 (.int 6))))))<|aj fun F p0=>by
 have:=ap p0
 simp only[aa]at *;omega
def aBL:=fb gQ (.not (cmp .lss (.int 1000) (fn 0 (fn 1 (pr Y3 (.int 20))))))<|aj fun F p0=>by
 have:=ap p0
 simp only[aa]at *;omega
def aBM:=fb gQ (.not (cmp .lss (.int 1000) (fn 0 (fn 1 (pr Y3 (.int 7))))))<|aj fun F p0=>by
 have:=ap p0
 simp only[aa]at *;omega
def aBN:=fb gQ (.not (cmp .lss (.int 1000) (fn 0 (fn 1 (pr Y3 (.int 21))))))<|aj fun F p0=>by
 have:=ap p0
 simp only[aa]at *;omega
def Yp:=fb gQ (.not (cmp .lss (.int 1000) (fn 0 (fn 1 (pr Y3 (.int 8))))))<|aj fun F p0=>by
 have:=ap p0
 simp only[aa]at *;omega
def Yq:=fb gQ (.not (cmp .lss (.int 1000) (fn 0 (fn 1 (pr Y3 (.int 22))))))<|aj fun F p0=>by
 have:=ap p0
 simp only[aa]at *;omega
def aBO:=fb gQ (.not (cmp .lss (.int 1000) (fn 0 (fn 1 (pr Y3 (.int 9))))))<|aj fun F p0=>by
 have:=ap p0
 simp only[aa]at *;omega
def aBP:=fb gQ (.not (cmp .lss (.int 1000) (fn 0 (fn 1 (pr Y3 (.int 23))))))<|aj fun F p0=>by
 have:=ap p0
 simp only[aa]at *;omega
def aBQ:=fb (Y85::OX) agf<|u3 fun F p0 p1 p2 p3 p4 p5 p6 p7 p8 p9 ao au az aE=>by
 have:=ap aE
 have:=@a4O F Y5 Y4 Y3
 have:=@ao1 F Y5 Y4 Y3 (.int 0)
 simp only[aa,ab]at *
 obtain⟨a,b,c⟩:=ae ((0)+(E.I F Y6))
 simp only[b]at *
 obtain⟨d,f,g⟩:=ae (a+(E.I F Y0))
 simp only[f]at *
 obtain⟨i,j,k⟩:=ae (d+(E.I F Y7))
 simp only[j]at *
 obtain⟨l,m,n⟩:=ae (i+(E.I F dB))
 omega
def aBR:=fb ((.not Y85)::agh::rk::agi::agj::Hf::agk::agl::mD::agm::agn::pV::ago::(.not (cmp .lss (.int 1) Y4))::GS::gQ) agf<|qk fun F p0 p1 p2 p3 p4 p5 p6 p7 p8 p9 ao au az aE aM aN=>by
 have:=ap aN
 have:=@a4P F Y5 Y4 Y3
 have:=@ao1 F Y5 Y4 Y3 (.int 0)
 simp only[aa,ab]at *
 obtain⟨a,b,c⟩:=ae ((0)+(E.I F Y6))
 simp only[b]at *
 obtain⟨d,f,g⟩:=ae (a+(E.I F Y0))
 simp only[f]at *
 obtain⟨i,j,k⟩:=ae (d+(E.I F Y7))
 simp only[j]at *
 obtain⟨l,m,n⟩:=ae (i+(E.I F dB))
 omega
def aBS:=fb OX agq<|jk fun F p0 p1 p2 p3 p4 p5 p6 p7 p8 p9 ao au az=>by
 have:=ap az
 simp only[aa,ab]at *
 obtain⟨a,b,c⟩:=ae ((0)+(E.I F Y6))
 simp only[b]at *
 obtain⟨d,f,g⟩:=ae (a+(E.I F Y0))
 simp only[f]at *
 obtain⟨i,j,k⟩:=ae (d+(E.I F Y7))
 simp only[j]at *
 obtain⟨l,m,n⟩:=ae (i+(E.I F dB))
 omega
def aBT:=fb agr agq<|jk fun F p0 p1 p2 p3 p4 p5 p6 p7 p8 p9 ao au az=>by
 have:=ap az
 simp only[aa,ab]at *
 obtain⟨a,b,c⟩:=ae ((0)+(E.I F Y6))
 simp only[b]at *
 obtain⟨d,f,g⟩:=ae (a+(E.I F Y0))
 simp only[f]at *
 obtain⟨i,j,k⟩:=ae (d+(E.I F Y7))
 simp only[j]at *
 obtain⟨l,m,n⟩:=ae (i+(E.I F dB))
 omega
def aBU:=fb OX ags<|jk fun F p0 p1 p2 p3 p4 p5 p6 p7 p8 p9 ao au az=>by
 have:=ap az
 simp only[aa,ab]at *
 obtain⟨a,b,c⟩:=ae ((0)+(E.I F Y6))
 simp only[b]at *
 obtain⟨d,f,g⟩:=ae (a+(E.I F Y0))
 simp only[f]at *
 obtain⟨i,j,k⟩:=ae (d+(E.I F Y7))
 simp only[j]at *
 obtain⟨l,m,n⟩:=ae (i+(E.I F dB))
 omega
def aBV:=fb agr ags<|jk fun F p0 p1 p2 p3 p4 p5 p6 p7 p8 p9 ao au az=>by
 have:=ap az
 simp only[aa,ab]at *
 obtain⟨a,b,c⟩:=ae ((0)+(E.I F Y6))
 simp only[b]at *
 obtain⟨d,f,g⟩:=ae (a+(E.I F Y0))
 simp only[f]at *
 obtain⟨i,j,k⟩:=ae (d+(E.I F Y7))
 simp only[j]at *
 obtain⟨l,m,n⟩:=ae (i+(E.I F dB))
 omega
def Ys:=fb GU (.not (cmp .lss (.ar .add .i64 bu (.int 1)) (.int 0)))<|ag fun F p0 p1 p2=>by
 have:=ap p0
 simp only[aa,ab]at *
 obtain⟨a,b,c⟩:=ae (E.I F bu+1)
 omega
def aBW:=fb [GV,O0,O1,GS] (cmp .eql fw (fn 122 (pr Y3 (pr Y4 Y5))))<|am fun F p0 p1 p2 p3=>by
 have:=@a4J F Y5 Y4 Y3 bu
 simp only[aa]at *;grind
def Yt:=fb GU (.not (cmp .lss (fn 9 (pr (fn 1 (pr Y3 (.int 29))) (.int 5))) (.ar .add .i64 bu (.int 1))))<|ag fun F p0 p1 p2=>by
 simp only[aa,ab]at *
 obtain⟨a,b,c⟩:=ae (E.I F bu+1)
 omega
def aBX:=fb (GV::O2::O0::O1::gQ) (.not (cmp .lss (.int 1000) fw))<|aw fun F p0 p1 p2 p3 p4=>by
 have:=ap p4
 simp only[aa]at *;omega
def aBY:=fb (iR::agu::agv::agw::agy) (cmp .eql (.ar .add .i64 fw (.int 1)) (fn 6 (pr (fn 132 (pr Y3 (pr Y4 (pr (.int 4) Y5)))) (fn 133 (pr Y3 (pr Y4 (pr Y5 (.ar .add .i64 bu (.int 1)))))))))<|b8 fun F p0 p1 p2 p3 p4 p5 p6 p7 p8=>by
 have:=ap p8
 have:=@ay F bu (.int 1)
 have:=@KO F Y5 Y4 (.ar .add .i64 bu (.int 1)) _ _ _ _ (fn 1 (pr (fn 1 (pr Y3 _)) (fn 6 (pr (fn 8 (pr bu _)) _)))) rfl rfl rfl
 simp only[aa,ab]at *
 obtain⟨a,b,c⟩:=ae (E.I F fw+1)
 omega
def aBZ:=fb (iR::(.not agw)::BI) O3<|aw fun F p0 p1 p2 p3 p4=>by
 have:=ap p4
 have:=@ay F bu (.int 1)
 have:=@KO F Y5 Y4 (.ar .add .i64 bu (.int 1)) _ _ _ _ (fn 1 (pr (fn 1 (pr Y3 _)) (fn 6 (pr (fn 8 (pr bu _)) _)))) rfl rfl rfl
 simp only[aa]at *;grind
def aB0:=fb (iR::(.not agv)::BI) O3<|aw fun F p0 p1 p2 p3 p4=>by
 have:=ap p4
 have:=@ay F bu (.int 1)
 have:=@KO F Y5 Y4 (.ar .add .i64 bu (.int 1)) _ _ _ _ (fn 1 (pr (fn 1 (pr Y3 _)) (fn 6 (pr (fn 8 (pr bu _)) _)))) rfl rfl rfl
 simp only[aa]at *;grind
def aB1:=fb (iR::(.not agu)::BI) O3<|aw fun F p0 p1 p2 p3 p4=>by
 have:=ap p4
 have:=@ay F bu (.int 1)
 have:=@KO F Y5 Y4 (.ar .add .i64 bu (.int 1)) _ _ _ _ (fn 1 (pr (fn 1 (pr Y3 _)) (fn 6 (pr (fn 8 (pr bu _)) _)))) rfl rfl rfl
 simp only[aa]at *;grind
def aB2:=fb agz agA<|bq fun F p0 p1 p2 p3 p4 p5=>by
 have:=ap p5
 simp only[aa,ab]at *
 obtain⟨a,b,c⟩:=ae (E.I F fw+1)
 omega
def aB3:=fb (iR::O2::BI) (.not (cmp .lss (fn 6 (pr (.int 160) (.ar .add .i64 bu (.int 1)))) fw))<|aw fun F p0 p1 p2 p3 p4=>by
 have:=ap p4
 simp only[aa,ab]at *
 obtain⟨a,b,c⟩:=ae (E.I F bu+1)
 omega
def aB4:=fb agz (.not (cmp .lss (fn 6 (pr (.int 160) (.ar .add .i64 bu (.int 1)))) (.ar .add .i64 fw (.int 1))))<|bq fun F p0 p1 p2 p3 p4 p5=>by
 have:=ap p5
 simp only[aa,ab]at *
 obtain⟨a,b,c⟩:=ae (E.I F bu+1)
 obtain⟨d,f,g⟩:=ae (E.I F fw+1)
 omega
def Yu:=fb GU (cmp .lss (fn 7 (pr (fn 9 (pr (fn 1 (pr Y3 (.int 29))) (.int 5))) (.ar .add .i64 bu (.int 1)))) (fn 7 (pr (fn 9 (pr (fn 1 (pr Y3 (.int 29))) (.int 5))) bu)))<|ag fun F p0 p1 p2=>by
 have:=ap p0
 simp only[aa,ab]at *
 obtain⟨a,b,c⟩:=ae (E.I F bu+1)
 omega
def Yv:=fb GU (.not (cmp .lss (fn 7 (pr (fn 9 (pr (fn 1 (pr Y3 (.int 29))) (.int 5))) (.ar .add .i64 bu (.int 1)))) (.int 0)))<|ag fun F p0 p1 p2=>by
 simp only[aa,ab]at *
 obtain⟨a,b,c⟩:=ae (E.I F bu+1)
 omega
def fK:List Fa:=[aBK,aBL,aBM,aBN,Yp,Yq,aBO,aBP,pd,aBQ,aBR,aBS,aBT,aBU,aBV,Ys,aBW,Yt,aBX,aBY,aBZ,aB0,aB1,aB2,aB3,aB4,Yu,Yv]
theorem a2P:aI Tryz.prog (aX (a2a)):=sc fK (aVV) alK ([]) (by kernel_rfl) (by kernel_rfl)
def alM:Nl:=nc a2P alK
def aB5:=fb [jM,jN,ky,agB] lw<|am fun F p0 p1 p2 p3=>by
 have:=@cz F Y3 Y4 Y5 Y6 Y0 Y7 dB ip aQ
 simp only[aa]at *;grind
def aB6:=fb (jM::jN::ky::mC::GS::n6::(.not pW)::agD) lw<|b8 fun F p0 p1 p2 p3 p4 p5 p6 p7 p8=>by
 have:=@cz F Y3 Y4 Y5 Y6 Y0 Y7 dB ip aQ
 simp only[aa]at *;grind
def aB7:=fb [jM,jN,ky,mC,n6,pW,Y95] lw<|bL fun F p0 p1 p2 p3 p4 p5 p6=>by
 have:=@cz F Y3 Y4 Y5 Y6 Y0 Y7 dB ip aQ
 simp only[aa]at *;grind
def aB8:=fb [jM,jN,ky,mC,n6,pW,mD,age] lw<|b7 fun F p0 p1 p2 p3 p4 p5 p6 p7=>by
 have:=@cz F Y3 Y4 Y5 Y6 Y0 Y7 dB ip aQ
 simp only[aa]at *;grind
def aB9:=fb [jM,jN,ky,mC,n6,pW,mD,pV,agE] lw<|b8 fun F p0 p1 p2 p3 p4 p5 p6 p7 p8=>by
 have:=@cz F Y3 Y4 Y5 Y6 Y0 Y7 dB ip aQ
 simp only[aa]at *;grind
def aCa:=fb [jM,jN,ky,mC,n6,pW,mD,pV,GW,Y46] lw<|fA fun F p0 p1 p2 p3 p4 p5 p6 p7 p8 p9=>by
 have:=@cz F Y3 Y4 Y5 Y6 Y0 Y7 dB ip aQ
 simp only[aa]at *;grind
def aCb:=fb (jM::jN::ky::mC::n6::pW::mD::pV::GW::uq::O5::(.not O7)::agI) agJ<|CU fun F p0 p1 p2 p3 p4 p5 p6 p7 p8 p9 ao au az aE aM=>by
 have:=@cz F Y3 Y4 Y5 Y6 Y0 Y7 dB ip aQ
 simp only[aa]at *;grind
def aCc:=fb [jM,jN,ky,mC,n6,pW,mD,pV,GW,agH] lw<|fA fun F p0 p1 p2 p3 p4 p5 p6 p7 p8 p9=>by
 have:=@cz F Y3 Y4 Y5 Y6 Y0 Y7 dB ip aQ
 simp only[aa]at *;grind
def aCd:=fb [jM,jN,ky,mC,n6,pW,mD,pV,agG] lw<|b8 fun F p0 p1 p2 p3 p4 p5 p6 p7 p8=>by
 have:=@cz F Y3 Y4 Y5 Y6 Y0 Y7 dB ip aQ
 simp only[aa]at *;grind
def aCe:=fb [jM,jN,ky,mC,n6,pW,mD,agF] lw<|b7 fun F p0 p1 p2 p3 p4 p5 p6 p7=>by
 have:=@cz F Y3 Y4 Y5 Y6 Y0 Y7 dB ip aQ
 simp only[aa]at *;grind
def aCf:=fb (jM::jN::ky::mC::GS::(.not n6)::agD) lw<|b7 fun F p0 p1 p2 p3 p4 p5 p6 p7=>by
 have:=@cz F Y3 Y4 Y5 Y6 Y0 Y7 dB ip aQ
 simp only[aa]at *;grind
def aCg:=fb (jM::jN::ky::mC::agp::rk::Hf::mD::pV::GW::uq::O5::(.not (cmp .lss (.int 99) Y6))::(.not (cmp .lss (.int 99) Y0))::agI) agJ<|x7 fun F p0 p1 p2 p3 p4 p5 p6 p7 p8 p9 ao au az aE aM aN bb=>by
 have:=@cz F Y3 Y4 Y5 Y6 Y0 Y7 dB ip aQ
 simp only[aa]at *;grind
def aCh:=fb [jM,jN,Pa] lw<|ag fun F p0 p1 p2=>by
 have:=@cz F Y3 Y4 Y5 Y6 Y0 Y7 dB ip aQ
 simp only[aa]at *;grind
def aCi:=fb [jM,jN,O7] lw<|ag fun F p0 p1 p2=>by
 have:=@cz F Y3 Y4 Y5 Y6 Y0 Y7 dB ip aQ
 simp only[aa]at *;grind
def gC:List Fa:=[aB5,aB6,aB7,aB8,aB9,aCa,aCb,aCc,aCd,aCe,aCf,YR,YQ,YP,YN,YM,YL,aCg,YG,YF,YE,YD,YC,aCh,aCi,YI,YJ,YK]
theorem a2Q:aI Tryz.prog (aX (aoC 69)):=sc gC ([]) alM ([]) (by kernel_rfl) (by kernel_rfl)
def alN:Nl:=nc a2Q alM
def aCj:=fb gQ (cmp .eql (.ar .add .i64 (.ar .add .i64 (.ar .add .i64 (.ar .add .i64 (.ar .add .i64 (.ar .add .i64 (.ar .add .i64 (.ar .add .i64 (.int 0) (fn 0 (fn 1 (pr Y3 (.int 6))))) (fn 0 (fn 1 (pr Y3 (.int 7))))) (fn 0 (fn 1 (pr Y3 (.int 8))))) (fn 0 (fn 1 (pr Y3 (.int 9))))) (fn 0 (fn 1 (pr Y3 (.int 20))))) (fn 0 (fn 1 (pr Y3 (.int 21))))) (fn 0 (fn 1 (pr Y3 (.int 22))))) (fn 0 (fn 1 (pr Y3 (.int 23))))) (fn 6 (pr (fn 134 (pr Y3 (.int 8))) (fn 135 (pr Y3 (.int 0))))))<|aj fun F p0=>by
 have:=ap p0
 have:=@a4Q F Y3
 have:=@a4S F Y3 (.int 0)
 simp only[aa,ab]at *
 have:=@cm F (fn 1 (pr Y3 (.int 6)))
 have:=@cm F (fn 1 (pr Y3 (.int 7)))
 have:=@cm F (fn 1 (pr Y3 (.int 8)))
 have:=@cm F (fn 1 (pr Y3 (.int 9)))
 have:=@cm F (fn 1 (pr Y3 (.int 20)))
 have:=@cm F (fn 1 (pr Y3 (.int 21)))
 have:=@cm F (fn 1 (pr Y3 (.int 22)))
 have:=@cm F (fn 1 (pr Y3 (.int 23)))
 obtain⟨a,b,c⟩:=ae ((0)+(E.I F (fn 0 (fn 1 (pr Y3 (.int 6))))))
 obtain⟨d,f,g⟩:=ae (a+(E.I F (fn 0 (fn 1 (pr Y3 (.int 7))))))
 obtain⟨i,j,k⟩:=ae (d+(E.I F (fn 0 (fn 1 (pr Y3 (.int 8))))))
 obtain⟨l,m,n⟩:=ae (i+(E.I F (fn 0 (fn 1 (pr Y3 (.int 9))))))
 obtain⟨o,r,s⟩:=ae (l+(E.I F (fn 0 (fn 1 (pr Y3 (.int 20))))))
 obtain⟨t,u,v⟩:=ae (o+(E.I F (fn 0 (fn 1 (pr Y3 (.int 21))))))
 obtain⟨w,x,y⟩:=ae (t+(E.I F (fn 0 (fn 1 (pr Y3 (.int 22))))))
 obtain⟨z,ea17,qa17⟩:=ae (w+(E.I F (fn 0 (fn 1 (pr Y3 (.int 23))))))
 grind
def aCk:=fb gQ (.not (cmp .lss (.ar .add .i64 (.ar .add .i64 (.ar .add .i64 (.ar .add .i64 (.ar .add .i64 (.ar .add .i64 (.ar .add .i64 (.ar .add .i64 (.int 0) (fn 0 (fn 1 (pr Y3 (.int 6))))) (fn 0 (fn 1 (pr Y3 (.int 7))))) (fn 0 (fn 1 (pr Y3 (.int 8))))) (fn 0 (fn 1 (pr Y3 (.int 9))))) (fn 0 (fn 1 (pr Y3 (.int 20))))) (fn 0 (fn 1 (pr Y3 (.int 21))))) (fn 0 (fn 1 (pr Y3 (.int 22))))) (fn 0 (fn 1 (pr Y3 (.int 23))))) (.int 0)))<|aj fun F p0=>by
 have:=ap p0
 simp only[aa,ab]at *
 have:=@cm F (fn 1 (pr Y3 (.int 6)))
 have:=@cm F (fn 1 (pr Y3 (.int 7)))
 have:=@cm F (fn 1 (pr Y3 (.int 8)))
 have:=@cm F (fn 1 (pr Y3 (.int 9)))
 have:=@cm F (fn 1 (pr Y3 (.int 20)))
 have:=@cm F (fn 1 (pr Y3 (.int 21)))
 have:=@cm F (fn 1 (pr Y3 (.int 22)))
 have:=@cm F (fn 1 (pr Y3 (.int 23)))
 obtain⟨a,b,c⟩:=ae ((0)+(E.I F (fn 0 (fn 1 (pr Y3 (.int 6))))))
 obtain⟨d,f,g⟩:=ae (a+(E.I F (fn 0 (fn 1 (pr Y3 (.int 7))))))
 obtain⟨i,j,k⟩:=ae (d+(E.I F (fn 0 (fn 1 (pr Y3 (.int 8))))))
 obtain⟨l,m,n⟩:=ae (i+(E.I F (fn 0 (fn 1 (pr Y3 (.int 9))))))
 obtain⟨o,r,s⟩:=ae (l+(E.I F (fn 0 (fn 1 (pr Y3 (.int 20))))))
 obtain⟨t,u,v⟩:=ae (o+(E.I F (fn 0 (fn 1 (pr Y3 (.int 21))))))
 obtain⟨w,x,y⟩:=ae (t+(E.I F (fn 0 (fn 1 (pr Y3 (.int 22))))))
 obtain⟨z,ea15,qa15⟩:=ae (w+(E.I F (fn 0 (fn 1 (pr Y3 (.int 23))))))
 grind
def aCl:=fb gQ (.not (cmp .lss (.int 320) (.ar .add .i64 (.ar .add .i64 (.ar .add .i64 (.ar .add .i64 (.ar .add .i64 (.ar .add .i64 (.ar .add .i64 (.ar .add .i64 (.int 0) (fn 0 (fn 1 (pr Y3 (.int 6))))) (fn 0 (fn 1 (pr Y3 (.int 7))))) (fn 0 (fn 1 (pr Y3 (.int 8))))) (fn 0 (fn 1 (pr Y3 (.int 9))))) (fn 0 (fn 1 (pr Y3 (.int 20))))) (fn 0 (fn 1 (pr Y3 (.int 21))))) (fn 0 (fn 1 (pr Y3 (.int 22))))) (fn 0 (fn 1 (pr Y3 (.int 23)))))))<|aj fun F p0=>by
 have:=ap p0
 simp only[aa,ab]at *
 have:=@cm F (fn 1 (pr Y3 (.int 6)))
 have:=@cm F (fn 1 (pr Y3 (.int 7)))
 have:=@cm F (fn 1 (pr Y3 (.int 8)))
 have:=@cm F (fn 1 (pr Y3 (.int 9)))
 have:=@cm F (fn 1 (pr Y3 (.int 20)))
 have:=@cm F (fn 1 (pr Y3 (.int 21)))
 have:=@cm F (fn 1 (pr Y3 (.int 22)))
 have:=@cm F (fn 1 (pr Y3 (.int 23)))
 obtain⟨a,b,c⟩:=ae ((0)+(E.I F (fn 0 (fn 1 (pr Y3 (.int 6))))))
 obtain⟨d,f,g⟩:=ae (a+(E.I F (fn 0 (fn 1 (pr Y3 (.int 7))))))
 obtain⟨i,j,k⟩:=ae (d+(E.I F (fn 0 (fn 1 (pr Y3 (.int 8))))))
 obtain⟨l,m,n⟩:=ae (i+(E.I F (fn 0 (fn 1 (pr Y3 (.int 9))))))
 obtain⟨o,r,s⟩:=ae (l+(E.I F (fn 0 (fn 1 (pr Y3 (.int 20))))))
 obtain⟨t,u,v⟩:=ae (o+(E.I F (fn 0 (fn 1 (pr Y3 (.int 21))))))
 obtain⟨w,x,y⟩:=ae (t+(E.I F (fn 0 (fn 1 (pr Y3 (.int 22))))))
 obtain⟨z,ea15,qa15⟩:=ae (w+(E.I F (fn 0 (fn 1 (pr Y3 (.int 23))))))
 grind
def aCm:=fa ((fn 123 (pr Y3 (.int 0))))<|fun F=>by
 rfl
def aCn:=fb (iR::xe::O8::(.not agK)::O9) xg<|bq fun F p0 p1 p2 p3 p4 p5=>by
 have:=@KX F (fn 6 (pr bu (.int 1))) _ _ p4 _ _ _ _ (fn 1 (pr _ (fn 6 (pr (fn 8 (pr xf _)) _)))) rfl rfl rfl rfl
 simp only[aa]at *;grind
def aCo:=fb (iR::xe::O8::agM::O9) xg<|bq fun F p0 p1 p2 p3 p4 p5=>by
 have:=@KX F (fn 6 (pr bu (.int 1))) _ _ p4 _ _ _ _ (fn 1 (pr _ (fn 6 (pr (fn 8 (pr xf _)) _)))) rfl rfl rfl rfl
 simp only[aa]at *;grind
def aCp:=fb (GV::agN::agO) (cmp .eql fw (fn 6 (pr (fn 134 (pr Y3 (.int 8))) (fn 135 (pr Y3 (fn 9 (pr (fn 1 (pr Y3 (.int 29))) (.int 5))))))))<|ag fun F p0 p1 p2=>by
 have:=@a4R F (fn 9 (pr (fn 1 (pr Y3 (.int 29))) (.int 5))) Y3 bu
 simp only[aa]at *;grind
def aCq:=fb (GV::n8::agL::agO) agP<|am fun F p0 p1 p2 p3=>by
 have g0:E.I F (fn 9 (pr (fn 1 (pr Y3 (.int 29))) (.int 5)))=E.I F bu:=by
  simp only[aa]at *;omega
 grind[a4K]
def aCr:=fb (iR::(.not xe)::n8::Pb) (cmp .eql fw (fn 6 (pr (fn 134 (pr Y3 (.int 8))) (fn 135 (pr Y3 (.ar .add .i64 bu (.int 1)))))))<|aw fun F p0 p1 p2 p3 p4=>by
 have:=ap p2
 have:=@ay F bu (.int 1)
 have:=@ao2 F (.ar .add .i64 bu (.int 1)) _ _ (fn 1 (pr (fn 1 (pr Y3 _)) (fn 6 (pr (fn 8 (pr bu _)) _)))) rfl
 simp only[aa]at *;grind
def aCs:=fb (iR::xe::agR) (cmp .eql (.ar .add .i64 fw (.int 1)) (fn 6 (pr (fn 134 (pr Y3 (.int 8))) (fn 135 (pr Y3 (.ar .add .i64 bu (.int 1)))))))<|bL fun F p0 p1 p2 p3 p4 p5 p6=>by
 have:=ap p2
 have:=@ay F bu (.int 1)
 have:=@ao2 F (.ar .add .i64 bu (.int 1)) _ _ (fn 1 (pr (fn 1 (pr Y3 _)) (fn 6 (pr (fn 8 (pr bu _)) _)))) rfl
 simp only[aa,ab]at *
 obtain⟨a,b,c⟩:=ae (E.I F fw+1)
 omega
def aCt:=fa ((fn 124 (pr Y3 (.int 0))))<|fun F=>by
 rfl
def aCu:=fb (iR::n8::agQ::Pb) (.not (cmp .lss (fn 6 (pr (.int 320) (.ar .add .i64 bu (.int 1)))) fw))<|aw fun F p0 p1 p2 p3 p4=>by
 have:=ap p1
 simp only[aa,ab]at *
 obtain⟨a,b,c⟩:=ae (E.I F bu+1)
 omega
def aCv:=fb agS agA<|bq fun F p0 p1 p2 p3 p4 p5=>by
 have:=ap p1
 simp only[aa,ab]at *
 obtain⟨a,b,c⟩:=ae (E.I F fw+1)
 omega
def aCw:=fb Pc (.not (cmp .lss (.ar .sub .i64 bj (.int 1)) (.int 0)))<|ag fun F p0 p1 p2=>by
 have:=ap p0
 simp only[aa,ab]at *
 obtain⟨a,b,c⟩:=ae ((E.I F bj)-(1))
 omega
def aCx:=fb [rl,pY] (.not (cmp .lss (fn 1 (pr (fn 1 (pr Y3 (.int 0))) (fn 6 (pr (fn 8 (pr bj (.int 12))) (.int 2))))) (.int 0)))<|ai fun F p0 p1=>by
 have:=@cz F (fn 1 (pr (fn 1 (pr Y3 (.int 0))) (fn 6 (pr (fn 8 (pr bj (.int 12))) (.int 0))))) (fn 1 (pr (fn 1 (pr Y3 (.int 0))) (fn 6 (pr (fn 8 (pr bj (.int 12))) (.int 1))))) (fn 1 (pr (fn 1 (pr Y3 (.int 0))) (fn 6 (pr (fn 8 (pr bj (.int 12))) (.int 2))))) (fn 1 (pr (fn 1 (pr Y3 (.int 0))) (fn 6 (pr (fn 8 (pr bj (.int 12))) (.int 3))))) (fn 1 (pr (fn 1 (pr Y3 (.int 0))) (fn 6 (pr (fn 8 (pr bj (.int 12))) (.int 4))))) (fn 1 (pr (fn 1 (pr Y3 (.int 0))) (fn 6 (pr (fn 8 (pr bj (.int 12))) (.int 5))))) (fn 1 (pr (fn 1 (pr Y3 (.int 0))) (fn 6 (pr (fn 8 (pr bj (.int 12))) (.int 6))))) (fn 1 (pr (fn 1 (pr Y3 (.int 0))) (fn 6 (pr (fn 8 (pr bj (.int 12))) (.int 7))))) (fn 1 (pr (fn 1 (pr Y3 (.int 0))) (fn 6 (pr (fn 8 (pr bj (.int 12))) (.int 8)))))
 simp only[aa]at *;grind
def aCy:=fb [(.not pX),Pd,agP,(cmp .eql (var 25) (fn 6 (pr (fn 134 (pr Y3 (.int 8))) (fn 135 (pr Y3 (fn 9 (pr (fn 1 (pr Y3 (.int 29))) (.int 5)))))))),(.not (cmp .lss (fn 9 (pr (fn 1 (pr Y3 (.int 0))) (.int 12))) bj))] (.iff (cmp .eql (var 25) (fn 9 (pr (fn 1 (pr Y3 (.int 0))) (.int 12)))) (fn 125 Y3))<|aw fun F p0 p1 p2 p3 p4=>by
 have:=@a52 F _ _ (var 25) p2 p1
 simp only[aa]at *;grind
def aCz:=fb (iR::(.not xe)::agT) agU<|aw fun F p0 p1 p2 p3 p4=>by
 have:=ap p2
 have:=@ay F bu (.int 1)
 have:=@KX F (.ar .add .i64 bu (.int 1)) _ _ p3 _ _ _ _ (fn 1 (pr _ (fn 6 (pr (fn 8 (pr (.int 0) _)) _)))) rfl rfl rfl rfl
 simp only[aa]at *;grind
def aCA:=fb agS (.not (cmp .lss (fn 6 (pr (.int 320) (.ar .add .i64 bu (.int 1)))) (.ar .add .i64 fw (.int 1))))<|bq fun F p0 p1 p2 p3 p4 p5=>by
 have:=ap p1
 simp only[aa,ab]at *
 obtain⟨a,b,c⟩:=ae (E.I F bu+1)
 obtain⟨d,f,g⟩:=ae (E.I F fw+1)
 omega
def aCB:=fb GX (cmp .lss (.ar .sub .i64 bj (.int 1)) (fn 9 (pr (fn 1 (pr Y3 (.int 0))) (.int 12))))<|ai fun F p0 p1=>by
 simp only[aa,ab]at *
 obtain⟨a,b,c⟩:=ae ((E.I F bj)-(1))
 omega
def aCC:=fb [rl,pY] (.not (cmp .lss (.int 1) (fn 1 (pr (fn 1 (pr Y3 (.int 0))) (fn 6 (pr (fn 8 (pr bj (.int 12))) (.int 2)))))))<|ai fun F p0 p1=>by
 have:=@cz F (fn 1 (pr (fn 1 (pr Y3 (.int 0))) (fn 6 (pr (fn 8 (pr bj (.int 12))) (.int 0))))) (fn 1 (pr (fn 1 (pr Y3 (.int 0))) (fn 6 (pr (fn 8 (pr bj (.int 12))) (.int 1))))) (fn 1 (pr (fn 1 (pr Y3 (.int 0))) (fn 6 (pr (fn 8 (pr bj (.int 12))) (.int 2))))) (fn 1 (pr (fn 1 (pr Y3 (.int 0))) (fn 6 (pr (fn 8 (pr bj (.int 12))) (.int 3))))) (fn 1 (pr (fn 1 (pr Y3 (.int 0))) (fn 6 (pr (fn 8 (pr bj (.int 12))) (.int 4))))) (fn 1 (pr (fn 1 (pr Y3 (.int 0))) (fn 6 (pr (fn 8 (pr bj (.int 12))) (.int 5))))) (fn 1 (pr (fn 1 (pr Y3 (.int 0))) (fn 6 (pr (fn 8 (pr bj (.int 12))) (.int 6))))) (fn 1 (pr (fn 1 (pr Y3 (.int 0))) (fn 6 (pr (fn 8 (pr bj (.int 12))) (.int 7))))) (fn 1 (pr (fn 1 (pr Y3 (.int 0))) (fn 6 (pr (fn 8 (pr bj (.int 12))) (.int 8)))))
 simp only[aa]at *;grind
def aCD:=fb (iR::xe::O8::(.not agM)::agK::agT) agU<|b7 fun F p0 p1 p2 p3 p4 p5 p6 p7=>by
 have:=ap p5
 have:=@ay F bu (.int 1)
 have:=@KX F (.ar .add .i64 bu (.int 1)) _ _ p6 _ _ _ _ (fn 1 (pr _ (fn 6 (pr (fn 8 (pr xf _)) _)))) rfl rfl rfl rfl
 simp only[aa]at *;grind
def aCE:=fb (pX::rl::pY::Pe::GY::(.not GZ)::agX) xg<|b7 fun F p0 p1 p2 p3 p4 p5 p6 p7=>by
 have:=@zp F _ (fn 6 (pr bj (.int 1))) _ p6 (.ar .sub .i64 bj (.int 1)) _ _ _ _ _ _ _ _ _ rfl rfl rfl rfl rfl rfl rfl rfl rfl
 simp only[aa]at *;grind
def aCF:=fb Pf agY<|ai fun F p0 p1=>by
 simp only[aa,ab]at *
 obtain⟨a,b,c⟩:=ae (E.I F bj+1)
 omega
def aCG:=fb (pX::rl::pY::BL::Pg::GY::(.not GZ)::Ha) xg<|fA fun F p0 p1 p2 p3 p4 p5 p6 p7 p8 p9=>by
 have:=ap p9
 have:=@aR F bj (.int 1)
 have:=@zp F _ (fn 6 (pr bj (.int 1))) _ p7 (.ar .sub .i64 bj (.int 1)) _ _ _ _ _ _ _ _ _ rfl rfl rfl rfl rfl rfl rfl rfl rfl
 simp only[aa]at *;grind
def aCH:=fb Pc agY<|ag fun F p0 p1 p2=>by
 have:=ap p0
 simp only[aa,ab]at *
 obtain⟨a,b,c⟩:=ae (E.I F bj+1)
 omega
def aCI:=fb (pX::rl::pY::BL::(.not Pg)::Ha) xg<|b7 fun F p0 p1 p2 p3 p4 p5 p6 p7=>by
 have:=ap p7
 have:=@aR F bj (.int 1)
 have:=@zp F _ (fn 6 (pr bj (.int 1))) _ p5 (.ar .sub .i64 bj (.int 1)) _ _ _ _ _ _ _ _ _ rfl rfl rfl rfl rfl rfl rfl rfl rfl
 simp only[aa]at *;grind
def aCJ:=fb (pX::rl::(.not pY)::Ha) xg<|bq fun F p0 p1 p2 p3 p4 p5=>by
 have:=ap p5
 have:=@aR F bj (.int 1)
 have:=@zp F _ (fn 6 (pr bj (.int 1))) _ p3 (.ar .sub .i64 bj (.int 1)) _ _ _ _ _ _ _ _ _ rfl rfl rfl rfl rfl rfl rfl rfl rfl
 simp only[aa]at *;grind
def aCK:=fb agZ ag0<|ag fun F p0 p1 p2=>by
 simp only[aa,ab]at *
 obtain⟨a,b,c⟩:=ae (E.I F bj+1)
 omega
def aCL:=fb GX ag0<|ai fun F p0 p1=>by
 simp only[aa,ab]at *
 obtain⟨a,b,c⟩:=ae (E.I F bj+1)
 omega
def aCM:=fb (pX::rl::pY::Pe::GY::GZ::agX) ag1<|b7 fun F p0 p1 p2 p3 p4 p5 p6 p7=>by
 have:=@ay F bj (.int 1)
 have:=@zp F _ (.ar .add .i64 bj (.int 1)) _ p6 (.ar .sub .i64 bj (.int 1)) _ _ _ _ _ _ _ _ _ rfl rfl rfl rfl rfl rfl rfl rfl rfl
 simp only[aa]at *;grind
def aCN:=fb (pX::rl::pY::BL::Pg::GY::GZ::Ha) ag1<|fA fun F p0 p1 p2 p3 p4 p5 p6 p7 p8 p9=>by
 have:=ap p9
 have:=@aR F bj (.int 1)
 have:=@ay F bj (.int 1)
 have:=@zp F _ (.ar .add .i64 bj (.int 1)) _ p7 (.ar .sub .i64 bj (.int 1)) _ _ _ _ _ _ _ _ _ rfl rfl rfl rfl rfl rfl rfl rfl rfl
 simp only[aa]at *;grind
def aCO:=fb Pf ag2<|ai fun F p0 p1=>by
 simp only[aa,ab]at *
 obtain⟨a,b,c⟩:=ae (E.I F bj+1)
 omega
def aCP:=fb Pc ag2<|ag fun F p0 p1 p2=>by
 have:=ap p0
 simp only[aa,ab]at *
 obtain⟨a,b,c⟩:=ae (E.I F bj+1)
 omega
def aCQ:=fb agZ ag3<|ag fun F p0 p1 p2=>by
 simp only[aa,ab]at *
 obtain⟨a,b,c⟩:=ae (E.I F bj+1)
 omega
def aCR:=fb GX ag3<|ai fun F p0 p1=>by
 simp only[aa,ab]at *
 obtain⟨a,b,c⟩:=ae (E.I F bj+1)
 omega
def iV:List Fa:=[pd,LK,aCj,aCk,aCl,aCm,Ys,aCn,aCo,aCp,Yt,aCq,aCr,aCs,aCt,aCu,aCv,aCw,aCx,aCy,aCz,aCA,aCB,aCC,Yu,aCD,Yv,aCE,aCF,aCG,aCH,aCI,aCJ,aCK,aCL,aCM,aCN,aCO,aCP,aCQ,aCR]
theorem a2S:aI Tryz.prog (aX (a1L)):=sc iV (aVK) alN ([]) (by kernel_rfl) (by kernel_rfl)
def alO:Nl:=nc a2S alN
end
end Go.Proofs.YtnnbmcfabojjjaaGreat.payPays
