/-
  CombatAttacks: contracts of functions, part 7.
-/
import Derived.Test.YtnggbcblogpnfaaGreatCombatAttacksPartf
namespace Go.Proofs.YtnggbcblogpnfaaGreat.combatAttacks
open Go.ChangeShapes Go.WideShapes Go.ChangeAt Go.RowKit
open Go.SX
open Go.SX.E (fn pr cmp var)
set_option linter.unusedVariables false
set_option linter.unusedSimpArgs false
set_option maxRecDepth 100000
noncomputable section
abbrev N0:E:=var 4
abbrev N1:E:=cmp .lss (.int 4) (fn 9 (pr N0 (.int 2)))
abbrev N2:E:=.bool false
abbrev N3:E:=var 0
abbrev N4:E:=var 1
abbrev N5:E:=var 2
abbrev N6:E:=var 3
abbrev N7:E:=var 5
abbrev N8:E:=pr N6 (pr N0 N7)
abbrev N9:E:=pr N5 N8
abbrev N10:E:=pr N4 N9
abbrev N11:E:=pr N3 N10
abbrev Sm:E:=fn 102 N11
abbrev gz:E:=.iff N2 Sm
abbrev Sw:E:=cmp .lss (.int 0) (fn 9 (pr N0 (.int 2)))
abbrev HU:E:=cmp .lss N6 (.int 0)
abbrev og:E:=.not HU
abbrev v6:E:=.imp og (cmp .eql (fn 9 (pr N0 (.int 2))) (.int 0))
abbrev HZ:E:=.not N1
abbrev H1:E:=cmp .lss (.int 1) N6
abbrev SP:E:=cmp .lss (.int 399) N5
abbrev H5:E:=cmp .lss N5 (.int 0)
abbrev iA:E:=.not H5
abbrev S5:E:=cmp .lss (.int 500) N4
abbrev Ta:E:=cmp .lss N4 (.int 1)
abbrev Tf:E:=cmp .lss (.int 1) N3
abbrev N26:E:=cmp .lss N3 (.int 0)
abbrev N27:E:=.not N26
abbrev N28:=[N27]
abbrev N29:List E:=(.not Tf)::N28
abbrev N30:List E:=(.not Ta)::N29
abbrev N31:List E:=(.not S5)::N30
abbrev N32:=iA::N31
abbrev Th:List E:=(.not SP)::N32
abbrev Ic:E:=cmp .lss N6 (.int (-1))
abbrev sn:E:=.imp N7 og
abbrev aO:E:=var 8
abbrev jb:E:=cmp .lss aO (fn 9 (pr N0 (.int 2)))
abbrev Ti:E:=cmp .lss (fn 1 (pr N0 (fn 6 (pr (fn 8 (pr aO (.int 2))) (.int 0))))) (.int 0)
abbrev sq:E:=.not Ti
abbrev Tj:E:=cmp .lss (fn 1 (pr N0 (fn 6 (pr (fn 8 (pr aO (.int 2))) (.int 1))))) (.int 0)
abbrev AI:E:=.not Tj
abbrev AJ:E:=cmp .lss (.int 1) (fn 1 (pr N0 (fn 6 (pr (fn 8 (pr aO (.int 2))) (.int 1)))))
abbrev Tk:E:=cmp .lss (.int 0) (fn 1 (pr N0 (fn 6 (pr (fn 8 (pr aO (.int 2))) (.int 0)))))
abbrev Tl:E:=cmp .eql (fn 1 (pr N0 (fn 6 (pr (fn 8 (pr aO (.int 2))) (.int 1))))) (.int 0)
abbrev Ie:E:=cmp .lss (.int 500) (fn 1 (pr N0 (fn 6 (pr (fn 8 (pr aO (.int 2))) (.int 0)))))
abbrev Tn:E:=cmp .lss aO (.int 0)
abbrev pO:E:=.not Tn
abbrev N48:List E:=(.not Ic)::Th
abbrev N49:List E:=(.not H1)::N48
abbrev To:=HZ::N49
abbrev kL:=[pO]
abbrev N52:E:=pr N0 aO
abbrev Tp:E:=fn 101 N52
abbrev N54:=[HZ]
abbrev If:=pO::N54
abbrev N56:E:=cmp .lss (.ar .add .i64 aO (.int 1)) (.int 0)
abbrev Ig:E:=.not N56
abbrev N58:=Tp::If
abbrev Tq:List E:=(.not Ie)::N58
abbrev N60:E:=pr N0 (.ar .add .i64 aO (.int 1))
abbrev Ts:E:=fn 101 N60
abbrev mm:E:=cmp .lss aO (fn 0 N3)
abbrev N63:E:=cmp .lss (.int 1000) (fn 0 N3)
abbrev N64:E:=.not N63
abbrev N65:=[N64]
abbrev Tt:=pO::N65
abbrev Tu:=mm::Tt
abbrev iB:E:=var 9
abbrev Ih:E:=cmp .eql iB (fn 131 (pr N3 (pr N4 aO)))
abbrev N70:E:=cmp .lss aO iB
abbrev Ii:E:=.not N70
abbrev Tv:E:=cmp .eql (fn 1 (pr N3 aO)) N4
abbrev N73:E:=cmp .lss iB (.int 0)
abbrev N74:E:=.not N73
abbrev Tw:=Ih::Tt
abbrev N76:=N74::Tw
abbrev Ij:=Ii::N76
abbrev Tx:=mm::Ij
abbrev AK:E:=cmp .lss aO (fn 9 (pr (fn 1 (pr N3 (.int 0))) (.int 12)))
abbrev Ty:E:=cmp .eql (fn 1 (pr (fn 1 (pr N3 (.int 0))) (fn 6 (pr (fn 8 (pr aO (.int 12))) (.int 0))))) N4
abbrev Ik:E:=cmp .eql (fn 120 (pr N3 (pr N4 aO))) (.int (-1))
abbrev kM:E:=fn 117 N3
abbrev AL:=AK::kL
abbrev fC:=[kM]
abbrev Tz:E:=cmp .eql N4 (.int 0)
abbrev N86:E:=cmp .lss (fn 0 (fn 1 (pr N3 (.int 6)))) N6
abbrev N87:E:=.not N86
abbrev N88:E:=cmp .eql N6 (fn 121 (pr (fn 1 (pr N3 (.int 6))) N5))
abbrev N89:E:=cmp .lss (fn 0 (fn 1 (pr N3 (.int 7)))) N0
abbrev N90:E:=.not N89
abbrev AM:E:=.not (cmp .lss N0 (.int 0))
abbrev N92:E:=cmp .eql N0 (fn 121 (pr (fn 1 (pr N3 (.int 7))) N5))
abbrev N93:E:=cmp .lss (fn 0 (fn 1 (pr N3 (.int 8)))) N7
abbrev N94:E:=.not N93
abbrev TA:E:=cmp .lss N7 (.int 0)
abbrev jK:E:=.not TA
abbrev N97:E:=cmp .eql N7 (fn 121 (pr (fn 1 (pr N3 (.int 8))) N5))
abbrev de:E:=var 6
abbrev N99:E:=cmp .lss (fn 0 (fn 1 (pr N3 (.int 9)))) de
abbrev awo:E:=.not N99
abbrev Si:E:=cmp .lss de (.int 0)
abbrev mg:E:=.not Si
abbrev awp:E:=cmp .eql de (fn 121 (pr (fn 1 (pr N3 (.int 9))) N5))
abbrev awq:=awp::fC
abbrev awr:=mg::awq
abbrev aws:=awo::awr
abbrev awt:=N97::aws
abbrev awu:=jK::awt
abbrev awv:=N94::awu
abbrev aww:=N92::awv
abbrev awx:=AM::aww
abbrev awy:=N90::awx
abbrev awz:=N88::awy
abbrev awA:=og::awz
abbrev HS:=N87::awA
abbrev Sj:E:=cmp .eql (.ar .add .i64 (.ar .add .i64 (.ar .add .i64 (.ar .add .i64 (.int 0) N6) N0) N7) de) (fn 6 (pr (fn 132 (pr N3 (pr N4 (pr (.int 4) N5)))) (fn 133 (pr N3 (pr N4 (pr N5 (.int 0)))))))
abbrev awB:E:=cmp .lss (fn 0 (fn 1 (pr N3 (.int 20)))) N6
abbrev Sk:E:=.not awB
abbrev Sl:E:=cmp .eql N6 (fn 121 (pr (fn 1 (pr N3 (.int 20))) N5))
abbrev awC:E:=cmp .lss (fn 0 (fn 1 (pr N3 (.int 21)))) N0
abbrev Sn:E:=.not awC
abbrev So:E:=cmp .eql N0 (fn 121 (pr (fn 1 (pr N3 (.int 21))) N5))
abbrev awD:E:=cmp .lss (fn 0 (fn 1 (pr N3 (.int 22)))) N7
abbrev Sp:E:=.not awD
abbrev Sq:E:=cmp .eql N7 (fn 121 (pr (fn 1 (pr N3 (.int 22))) N5))
abbrev awE:E:=cmp .lss (fn 0 (fn 1 (pr N3 (.int 23)))) de
abbrev Sr:E:=.not awE
abbrev Ss:E:=cmp .eql de (fn 121 (pr (fn 1 (pr N3 (.int 23))) N5))
abbrev Su:E:=cmp .lss N4 (.int 0)
abbrev AA:E:=.not Su
abbrev awF:E:=cmp .lss (.ar .add .i64 (.ar .add .i64 (.ar .add .i64 (.ar .add .i64 (.int 0) N6) N0) N7) de) (.int 0)
abbrev Sv:E:=.not awF
abbrev awG:=Sr::mg::Ss::fC
abbrev awH:=Sq::awG
abbrev awI:=jK::awH
abbrev awJ:=Sp::awI
abbrev awK:=So::awJ
abbrev awL:=AM::awK
abbrev awM:=Sn::awL
abbrev awN:=Sl::awM
abbrev awO:=og::awN
abbrev Sx:=Sk::awO
abbrev awP:E:=cmp .lss (.int 160) (.ar .add .i64 (.ar .add .i64 (.ar .add .i64 (.ar .add .i64 (.int 0) N6) N0) N7) de)
abbrev Sy:E:=.not awP
abbrev br:E:=var 16
abbrev f6:E:=cmp .lss br (fn 9 (pr (fn 1 (pr N3 (.int 29))) (.int 5)))
abbrev awQ:E:=cmp .lss br (.int 0)
abbrev Sz:E:=.not awQ
abbrev HT:=[Sz]
abbrev awR:=f6::HT
abbrev AB:=kM::awR
abbrev AC:E:=.not f6
abbrev dZ:E:=var 17
abbrev HV:E:=cmp .eql dZ (fn 6 (pr (fn 132 (pr N3 (pr N4 (pr (.int 4) N5)))) (fn 133 (pr N3 (pr N4 (pr N5 br))))))
abbrev awS:E:=cmp .lss (fn 9 (pr (fn 1 (pr N3 (.int 29))) (.int 5))) br
abbrev HW:E:=.not awS
abbrev awT:E:=cmp .lss (fn 6 (pr (.int 160) br)) dZ
abbrev HX:E:=.not awT
abbrev SA:E:=cmp .eql (fn 1 (pr (fn 1 (pr N3 (.int 29))) (fn 6 (pr (fn 8 (pr br (.int 5))) (.int 3))))) (.int (-1))
abbrev SB:E:=cmp .eql (fn 1 (pr (fn 1 (pr N3 (.int 29))) (fn 6 (pr (fn 8 (pr br (.int 5))) (.int 1))))) N5
abbrev SC:E:=cmp .eql (fn 1 (pr (fn 1 (pr N3 (.int 29))) (fn 6 (pr (fn 8 (pr br (.int 5))) (.int 0))))) N4
abbrev awU:E:=cmp .lss dZ (.int 0)
abbrev SD:E:=.not awU
abbrev vZ:=HV::Sz::fC
abbrev awV:=SD::vZ
abbrev SE:=HX::awV
abbrev HY:E:=cmp .eql dZ (fn 6 (pr (fn 132 (pr N3 (pr N4 (pr (.int 4) N5)))) (fn 133 (pr N3 (pr N4 (pr N5 (.ar .add .i64 br (.int 1))))))))
abbrev SF:=f6::SE
abbrev awW:E:=cmp .lss (.ar .add .i64 dZ (.int 1)) (.int 0)
abbrev SG:E:=.not awW
abbrev gV:E:=.not (cmp .lss N3 (.int 1))
abbrev gW:E:=.not (cmp .lss N4 (.int (-1)))
abbrev SH:E:=cmp .lss (.int 1) N5
abbrev fM:E:=var 7
abbrev awX:E:=pr fM aO
abbrev awY:E:=pr de awX
abbrev awZ:E:=pr N7 awY
abbrev aw0:E:=pr N0 awZ
abbrev aw1:E:=pr N6 aw0
abbrev aw2:E:=pr N5 aw1
abbrev aw3:E:=pr N4 aw2
abbrev aw4:E:=pr N3 aw3
abbrev SI:E:=fn 137 aw4
abbrev ja:E:=.iff N2 SI
abbrev jJ:E:=.not SH
abbrev kK:E:=cmp .eql N6 (.int 0)
abbrev mh:E:=cmp .eql N0 (.int 0)
abbrev aw5:E:=cmp .lss (.int 500) N3
abbrev H0:E:=.not aw5
abbrev H2:E:=cmp .lss (.int 399) N4
abbrev SJ:=[H0,(.not H2)]
abbrev SK:E:=cmp .lss fM (.int 0)
abbrev AD:E:=.not SK
abbrev SL:E:=cmp .lss (.int 99) N7
abbrev SM:E:=cmp .lss (.int 99) de
abbrev SN:E:=cmp .lss (.int 99) fM
abbrev aw6:List E:=[(.not SM),(.not SN)]
abbrev SO:List E:=(.not SL)::aw6
abbrev aw7:E:=cmp .lss (.int 99) aO
abbrev aw8:E:=.not aw7
abbrev SQ:E:=.iff aw8 SI
abbrev sj:E:=cmp .lss (fn 1 (pr (fn 1 (pr N3 (.int 29))) (fn 6 (pr (fn 8 (pr br (.int 5))) (.int 3))))) (.int 0)
abbrev sk:E:=var 18
abbrev H3:E:=cmp .eql sk (fn 120 (pr N3 (pr (fn 1 (pr (fn 1 (pr N3 (.int 29))) (fn 6 (pr (fn 8 (pr br (.int 5))) (.int 1))))) (fn 9 (pr (fn 1 (pr N3 (.int 0))) (.int 12))))))
abbrev SR:E:=cmp .eql (fn 1 (pr (fn 1 (pr N3 (.int 0))) (fn 6 (pr (fn 8 (pr sk (.int 12))) (.int 1))))) (fn 1 (pr (fn 1 (pr N3 (.int 29))) (fn 6 (pr (fn 8 (pr br (.int 5))) (.int 2)))))
abbrev SS:E:=fn 123 (pr N3 br)
abbrev H4:=SS::HT
abbrev sm:E:=.iff N2 (fn 125 N3)
abbrev SU:E:=cmp .lss sk (.int 0)
abbrev SW:E:=cmp .eql dZ (fn 6 (pr (fn 134 (pr N3 (.int 8))) (fn 135 (pr N3 br))))
abbrev SY:=[HW]
abbrev SZ:E:=fn 123 (pr N3 (fn 9 (pr (fn 1 (pr N3 (.int 29))) (.int 5))))
abbrev H6:=SW::HT
abbrev aw9:E:=cmp .lss (fn 6 (pr (.int 320) br)) dZ
abbrev S0:E:=.not aw9
abbrev axa:=SD::H6
abbrev axb:=S0::axa
abbrev S1:=kM::axb
abbrev S2:=f6::S1
abbrev aY:E:=var 24
abbrev mj:E:=cmp .lss aY (fn 9 (pr (fn 1 (pr N3 (.int 0))) (.int 12)))
abbrev v7:E:=cmp .lss (.int 0) aY
abbrev AE:=[mj,v7]
abbrev H7:=kM::AE
abbrev ml:E:=var 26
abbrev oh:E:=.iff ml (fn 137 (pr (fn 1 (pr (fn 1 (pr N3 (.int 0))) (fn 6 (pr (fn 8 (pr aY (.int 12))) (.int 0))))) (pr (fn 1 (pr (fn 1 (pr N3 (.int 0))) (fn 6 (pr (fn 8 (pr aY (.int 12))) (.int 1))))) (pr (fn 1 (pr (fn 1 (pr N3 (.int 0))) (fn 6 (pr (fn 8 (pr aY (.int 12))) (.int 2))))) (pr (fn 1 (pr (fn 1 (pr N3 (.int 0))) (fn 6 (pr (fn 8 (pr aY (.int 12))) (.int 3))))) (pr (fn 1 (pr (fn 1 (pr N3 (.int 0))) (fn 6 (pr (fn 8 (pr aY (.int 12))) (.int 4))))) (pr (fn 1 (pr (fn 1 (pr N3 (.int 0))) (fn 6 (pr (fn 8 (pr aY (.int 12))) (.int 5))))) (pr (fn 1 (pr (fn 1 (pr N3 (.int 0))) (fn 6 (pr (fn 8 (pr aY (.int 12))) (.int 6))))) (pr (fn 1 (pr (fn 1 (pr N3 (.int 0))) (fn 6 (pr (fn 8 (pr aY (.int 12))) (.int 7))))) (fn 1 (pr (fn 1 (pr N3 (.int 0))) (fn 6 (pr (fn 8 (pr aY (.int 12))) (.int 8))))))))))))))
abbrev H8:E:=fn 124 (pr N3 aY)
abbrev S3:=kM::H4
abbrev S4:E:=fn 123 (pr N3 (.ar .add .i64 br (.int 1)))
abbrev H9:E:=.not v7
abbrev AF:E:=cmp .eql (var 27) (fn 122 (pr N3 (pr (fn 1 (pr (fn 1 (pr N3 (.int 0))) (fn 6 (pr (fn 8 (pr aY (.int 12))) (.int 2))))) (fn 1 (pr (fn 1 (pr N3 (.int 0))) (fn 6 (pr (fn 8 (pr aY (.int 12))) (.int 0))))))))
abbrev AG:E:=cmp .eql (var 27) (.int 1)
abbrev axc:E:=cmp .lss aY (.int 0)
abbrev S6:E:=.not axc
abbrev S7:=[S6]
abbrev S8:=H8::S7
abbrev Ia:=H9::S7
abbrev axd:E:=cmp .lss (.ar .add .i64 aY (.int 1)) (.int 0)
abbrev S9:E:=.not axd
abbrev Ib:E:=cmp .lss (fn 1 (pr (fn 1 (pr N3 (.int 0))) (fn 6 (pr (fn 8 (pr (.ar .sub .i64 aY (.int 1)) (.int 12))) (.int 0))))) (fn 1 (pr (fn 1 (pr N3 (.int 0))) (fn 6 (pr (fn 8 (pr aY (.int 12))) (.int 0)))))
abbrev axe:=S6::fC
abbrev AH:=H8::axe
abbrev Tb:=mj::Ia
abbrev axf:E:=cmp .lss (fn 9 (pr (fn 1 (pr N3 (.int 0))) (.int 12))) (.ar .add .i64 aY (.int 1))
abbrev Tc:E:=.not axf
abbrev axg:E:=pr N3 (.ar .add .i64 aY (.int 1))
abbrev Td:E:=fn 124 axg
abbrev Te:E:=cmp .lss (fn 7 (pr (fn 9 (pr (fn 1 (pr N3 (.int 0))) (.int 12))) (.ar .add .i64 aY (.int 1)))) (fn 7 (pr (fn 9 (pr (fn 1 (pr N3 (.int 0))) (.int 12))) aY))
abbrev axh:E:=cmp .lss (fn 7 (pr (fn 9 (pr (fn 1 (pr N3 (.int 0))) (.int 12))) (.ar .add .i64 aY (.int 1)))) (.int 0)
abbrev Tg:E:=.not axh
def ajx:=fb [N1] gz<|ah fun F p0=>by
 have:=(@dk F N6 N4 N3 N7 N5 N0)
 simp only[aa]at *;grind
def ajy:=fb [(.not Sw)] v6<|ah fun F p0=>by
 have:=ug F (pr N0 (.int 2))
 simp only[aa]at *;grind
def ajz:=fb (og::Sw::HZ::(.not H1)::Th) gz<|eR fun F p0 p1 p2 p3 p4 p5 p6 p7 p8 p9=>by
 have:=(@dk F N6 N4 N3 N7 N5 N0)
 simp only[aa]at *;grind
def ajA:=fb [HU,N7] gz<|ap fun F p0 p1=>by
 have:=(@dk F N6 N4 N3 N7 N5 N0)
 simp only[aa]at *;grind
def ajB:=fb [HU,(.not Ic)] v6<|ap fun F p0 p1=>by
 simp_all
def ajC:=fb [H1] gz<|ah fun F p0=>by
 have:=(@dk F N6 N4 N3 N7 N5 N0)
 simp only[aa]at *;grind
def ajD:=fb [Ic] gz<|ah fun F p0=>by
 have:=(@dk F N6 N4 N3 N7 N5 N0)
 simp only[aa]at *;grind
def ajE:=fb [SP] gz<|ah fun F p0=>by
 have:=(@dk F N6 N4 N3 N7 N5 N0)
 simp only[aa]at *;grind
def ajF:=fb [H5] gz<|ah fun F p0=>by
 have:=(@dk F N6 N4 N3 N7 N5 N0)
 simp only[aa]at *;grind
def ajG:=fb [S5] gz<|ah fun F p0=>by
 have:=(@dk F N6 N4 N3 N7 N5 N0)
 simp only[aa]at *;grind
def ajH:=fb [Ta] gz<|ah fun F p0=>by
 have:=(@dk F N6 N4 N3 N7 N5 N0)
 simp only[aa]at *;grind
def ajI:=fb [Tf] gz<|ah fun F p0=>by
 have:=(@dk F N6 N4 N3 N7 N5 N0)
 simp only[aa]at *;grind
def ajJ:=fb [og] sn<|ah fun F p0=>by
 simp_all
def ajK:=fb [(.not N7)] sn<|ah fun F p0=>by
 simp_all
def ajL:=fa ((fn 101 (pr N0 (.int 0))))<|fun F=>by
 rfl
def ajM:=fb (jb::sq::AI::(.not AJ)::Tk::(.not Tl)::(.not Ie)::pO::sn::To) gz<|eZ fun F p0 p1 p2 p3 p4 p5 p6 p7 p8 p9 ai ao aq ax aA aC aL aN=>by
 have:=(@dk F N6 N4 N3 N7 N5 N0)
 have:=fun h0 h1=>@lM F _ _ (fn 9 (pr N0 (.int 2))) h0 h1 (fn 1 _) (fn 1 (pr N0 (fn 6 (pr (fn 8 (pr aO _)) _)))) rfl rfl
 simp only[aa]at *;grind
def ajN:=fb [v6] v6<|ah fun F p0=>by
 omega
def ajO:=fb (jb::sq::AI::AJ::kL) gz<|aK fun F p0 p1 p2 p3 p4=>by
 have:=(@dk F N6 N4 N3 N7 N5 N0)
 have:=fun h0 h1=>@lM F _ _ (fn 9 (pr N0 (.int 2))) h0 h1 _ (fn 1 (pr N0 (fn 6 (pr (fn 8 (pr aO _)) _)))) rfl rfl
 simp only[aa]at *;grind
def ajP:=fb (jb::sq::Tj::kL) gz<|aB fun F p0 p1 p2 p3=>by
 have:=(@dk F N6 N4 N3 N7 N5 N0)
 have:=fun h0 h1=>@lM F _ _ (fn 9 (pr N0 (.int 2))) h0 h1 _ (fn 1 (pr N0 (fn 6 (pr (fn 8 (pr aO _)) _)))) rfl rfl
 simp only[aa]at *;grind
def ajQ:=fb (jb::sq::Ie::kL) gz<|aB fun F p0 p1 p2 p3=>by
 have:=(@dk F N6 N4 N3 N7 N5 N0)
 have:=fun h0 h1=>@lM F _ _ (fn 9 (pr N0 (.int 2))) h0 h1 (fn 1 _) (fn 1 (pr N0 (fn 6 (pr (fn 8 (pr aO _)) _)))) rfl rfl
 simp only[aa]at *;grind
def ajR:=fb (jb::Ti::kL) gz<|am fun F p0 p1 p2=>by
 have:=(@dk F N6 N4 N3 N7 N5 N0)
 have:=fun h0 h1=>@lM F _ _ (fn 9 (pr N0 (.int 2))) h0 h1 (fn 1 _) (fn 1 (pr N0 (fn 6 (pr (fn 8 (pr aO _)) _)))) rfl rfl
 simp only[aa]at *;grind
def ajS:=fb ((.not jb)::Tp::sn::v6::To) (.iff (.bool true) Sm)<|jr fun F p0 p1 p2 p3 p4 p5 p6 p7 p8 p9 ai ao aq=>by
 have:=(@dk F N6 N4 N3 N7 N5 N0)
 have:=fun h1=>@afB F _ _ (fn 9 (pr N0 (.int 2))) p1 h1
 simp only[aa]at *;grind
def ajT:=fb [sn] sn<|ah fun F p0=>by
 omega
def ajU:=fb (jb::If) Ig<|am fun F p0 p1 p2=>by
 simp only[aa,ae]at *
 obtain⟨a,b,c⟩:=ab (E.I F aO+1)
 omega
def ajV:=fb (jb::kL) (.not (cmp .lss (fn 9 (pr N0 (.int 2))) (.ar .add .i64 aO (.int 1))))<|ap fun F p0 p1=>by
 simp only[aa,ae]at *
 obtain⟨a,b,c⟩:=ab (E.I F aO+1)
 omega
def ajW:=fb (jb::sq::AI::(.not AJ)::Tl::Tq) Ts<|di fun F p0 p1 p2 p3 p4 p5 p6 p7 p8=>by
 have:=@bH F aO (.int 1)
 have:=fun h0 hm=>@FL F _ (.ar .add .i64 aO (.int 1)) _ p6 h0 hm (fn 1 _) (fn 1 _) rfl rfl
 simp only[aa]at *;grind
def ajX:=fb (jb::sq::AI::(.not AJ)::(.not Tk)::Tq) Ts<|di fun F p0 p1 p2 p3 p4 p5 p6 p7 p8=>by
 have:=@bH F aO (.int 1)
 have:=fun h0 hm=>@FL F _ (.ar .add .i64 aO (.int 1)) _ p6 h0 hm (fn 1 _) (fn 1 _) rfl rfl
 simp only[aa]at *;grind
def ajY:=fb (jb::If) (cmp .lss (fn 7 (pr (fn 9 (pr N0 (.int 2))) (.ar .add .i64 aO (.int 1)))) (fn 7 (pr (fn 9 (pr N0 (.int 2))) aO)))<|am fun F p0 p1 p2=>by
 simp only[aa,ae]at *
 obtain⟨a,b,c⟩:=ab (E.I F aO+1)
 omega
def ajZ:=fb (jb::kL) (.not (cmp .lss (fn 7 (pr (fn 9 (pr N0 (.int 2))) (.ar .add .i64 aO (.int 1)))) (.int 0)))<|ap fun F p0 p1=>by
 simp only[aa,ae]at *
 obtain⟨a,b,c⟩:=ab (E.I F aO+1)
 omega
def bC:List Fa:=[ajx,ajy,ajz,ajA,ajB,ajC,ajD,ajE,ajF,ajG,ajH,ajI,Pm,ajJ,ajK,ajL,ajM,ajN,ajO,ajP,ajQ,ajR,ajS,ajT,ajU,ajV,ajW,ajX,ajY,ajZ]
theorem aIT:aR Tryz.prog (bj (aIn)):=sc bC (aDd) acI ([]) (by kernel_rfl) (by kernel_rfl)
def acJ:Nl:=nc aIT acI
def aj0:=fb Tu Ig<|am fun F p0 p1 p2=>by
 simp only[aa,ae]at *
 obtain⟨a,b,c⟩:=ab (E.I F aO+1)
 omega
def aj1:=fb [(.not mm),Ih] (cmp .eql iB (fn 121 (pr N3 N4)))<|ap fun F p0 p1=>by
 have:=@aKp F N3 N4 aO
 simp only[aa]at *;grind
def GS:=fb (mm::kL) (.not (cmp .lss (fn 0 N3) (.ar .add .i64 aO (.int 1))))<|ap fun F p0 p1=>by
 simp only[aa,ae]at *
 obtain⟨a,b,c⟩:=ab (E.I F aO+1)
 omega
def aj2:=fb [(.not mm),Ii,Ih,(.not (cmp .lss (fn 0 N3) aO))] (.not (cmp .lss (fn 0 N3) iB))<|aB fun F p0 p1 p2 p3=>by
 simp only[aa]at *;omega
def aj3:=fb (mm::Tv::Ij) (cmp .eql (.ar .add .i64 iB (.int 1)) (fn 131 (pr N3 (pr N4 (.ar .add .i64 aO (.int 1))))))<|cV fun F p0 p1 p2 p3 p4 p5 p6=>by
 have:=@bH F aO (.int 1)
 have:=@NB F N3 N4 aO (.ar .add .i64 aO (.int 1))
 simp only[aa,ae]at *
 obtain⟨a,b,c⟩:=ab (E.I F iB+1)
 omega
def aj4:=fb (mm::(.not Tv)::Ij) (cmp .eql iB (fn 131 (pr N3 (pr N4 (.ar .add .i64 aO (.int 1))))))<|cV fun F p0 p1 p2 p3 p4 p5 p6=>by
 have:=@bH F aO (.int 1)
 have:=@NB F N3 N4 aO (.ar .add .i64 aO (.int 1))
 simp only[aa]at *;grind
def aj5:=fb Tx (.not (cmp .lss (.ar .add .i64 iB (.int 1)) (.int 0)))<|bL fun F p0 p1 p2 p3 p4 p5=>by
 simp only[aa,ae]at *
 obtain⟨a,b,c⟩:=ab (E.I F iB+1)
 omega
def aj6:=fb (mm::Ii::Tw) (.not (cmp .lss (.ar .add .i64 aO (.int 1)) iB))<|aK fun F p0 p1 p2 p3 p4=>by
 simp only[aa,ae]at *
 obtain⟨a,b,c⟩:=ab (E.I F aO+1)
 omega
def aj7:=fb Tx (.not (cmp .lss (.ar .add .i64 aO (.int 1)) (.ar .add .i64 iB (.int 1))))<|bL fun F p0 p1 p2 p3 p4 p5=>by
 simp only[aa,ae]at *
 obtain⟨a,b,c⟩:=ab (E.I F aO+1)
 obtain⟨d,f,g⟩:=ab (E.I F iB+1)
 omega
def aj8:=fb Tu (cmp .lss (fn 7 (pr (fn 0 N3) (.ar .add .i64 aO (.int 1)))) (fn 7 (pr (fn 0 N3) aO)))<|am fun F p0 p1 p2=>by
 simp only[aa,ae]at *
 obtain⟨a,b,c⟩:=ab (E.I F aO+1)
 omega
def GU:=fb (mm::kL) (.not (cmp .lss (fn 7 (pr (fn 0 N3) (.ar .add .i64 aO (.int 1)))) (.int 0)))<|ap fun F p0 p1=>by
 simp only[aa,ae]at *
 obtain⟨a,b,c⟩:=ab (E.I F aO+1)
 omega
def bG:List Fa:=[PF,aj0,aj1,GS,aj2,aj3,aj4,aj5,aj6,aj7,aj8,GU]
theorem aIU:aR Tryz.prog (bj (aH8)):=sc bG (aC5) acJ ([]) (by kernel_rfl) (by kernel_rfl)
def acK:Nl:=nc aIU acJ
def aj9:=fa ((cmp .eql (fn 120 (pr N3 (pr N4 (.int 0)))) (.int (-1))))<|fun F=>by
 rfl
def aka:=fb (AK::Ty::Ik::kL) (cmp .eql aO (fn 120 (pr N3 (pr N4 (fn 9 (pr (fn 1 (pr N3 (.int 0))) (.int 12)))))))<|aB fun F p0 p1 p2 p3=>by
 have:=fun h=>@afG F N4 _ (fn 6 (pr aO (.int 1))) _ (fn 9 (pr (fn 1 (pr N3 (.int 0))) (.int 12))) h (fn 1 (pr (fn 1 (pr N3 _)) (fn 6 (pr (fn 8 (pr aO _)) _)))) rfl
 simp only[aa]at *;grind
def akb:=fb (kM::AL) Ig<|am fun F p0 p1 p2=>by
 have:=ak p0
 simp only[aa,ae]at *
 obtain⟨a,b,c⟩:=ab (E.I F aO+1)
 omega
def akc:=fb [(.not AK),Ik,(.not (cmp .lss (fn 9 (pr (fn 1 (pr N3 (.int 0))) (.int 12))) aO))] (cmp .eql (fn 120 (pr N3 (pr N4 (fn 9 (pr (fn 1 (pr N3 (.int 0))) (.int 12)))))) (.int (-1)))<|am fun F p0 p1 p2=>by
 have:=@aKo F N4 aO (fn 9 (pr (fn 1 (pr N3 (.int 0))) (.int 12))) N3
 simp only[aa]at *;grind
def akd:=fb AL (.not (cmp .lss (fn 9 (pr (fn 1 (pr N3 (.int 0))) (.int 12))) (.ar .add .i64 aO (.int 1))))<|ap fun F p0 p1=>by
 simp only[aa,ae]at *
 obtain⟨a,b,c⟩:=ab (E.I F aO+1)
 omega
def ake:=fb (AK::(.not Ty)::Ik::pO::fC) (cmp .eql (fn 120 (pr N3 (pr N4 (.ar .add .i64 aO (.int 1))))) (.int (-1)))<|aK fun F p0 p1 p2 p3 p4=>by
 have:=ak p4
 have:=@bH F aO (.int 1)
 have:=fun h=>@afG F N4 _ (.ar .add .i64 aO (.int 1)) _ (fn 9 (pr (fn 1 (pr N3 (.int 0))) (.int 12))) h (fn 1 (pr (fn 1 (pr N3 _)) (fn 6 (pr (fn 8 (pr aO _)) _)))) rfl
 simp only[aa]at *;grind
def akf:=fb (kM::AL) (cmp .lss (fn 7 (pr (fn 9 (pr (fn 1 (pr N3 (.int 0))) (.int 12))) (.ar .add .i64 aO (.int 1)))) (fn 7 (pr (fn 9 (pr (fn 1 (pr N3 (.int 0))) (.int 12))) aO)))<|am fun F p0 p1 p2=>by
 have:=ak p0
 simp only[aa,ae]at *
 obtain⟨a,b,c⟩:=ab (E.I F aO+1)
 omega
def akg:=fb AL (.not (cmp .lss (fn 7 (pr (fn 9 (pr (fn 1 (pr N3 (.int 0))) (.int 12))) (.ar .add .i64 aO (.int 1)))) (.int 0)))<|ap fun F p0 p1=>by
 simp only[aa,ae]at *
 obtain⟨a,b,c⟩:=ab (E.I F aO+1)
 omega
def bO:List Fa:=[Aa,aj9,aka,akb,akc,akd,ake,akf,akg]
theorem aIV:aR Tryz.prog (bj (aIl)):=sc bO (aDb) acK ([]) (by kernel_rfl) (by kernel_rfl)
def acL:Nl:=nc (ab0 (mss:=[uc,[]]) aIV) acK
def akh:=fb fC (.not (cmp .lss (.int 1000) (fn 0 (fn 1 (pr N3 (.int 6))))))<|ah fun F p0=>by
 have:=ak p0
 simp only[aa]at *;omega
def aki:=fb fC (.not (cmp .lss (.int 1000) (fn 0 (fn 1 (pr N3 (.int 20))))))<|ah fun F p0=>by
 have:=ak p0
 simp only[aa]at *;omega
def akj:=fb fC (.not (cmp .lss (.int 1000) (fn 0 (fn 1 (pr N3 (.int 7))))))<|ah fun F p0=>by
 have:=ak p0
 simp only[aa]at *;omega
def akk:=fb fC (.not (cmp .lss (.int 1000) (fn 0 (fn 1 (pr N3 (.int 21))))))<|ah fun F p0=>by
 have:=ak p0
 simp only[aa]at *;omega
def Pv:=fb fC (.not (cmp .lss (.int 1000) (fn 0 (fn 1 (pr N3 (.int 8))))))<|ah fun F p0=>by
 have:=ak p0
 simp only[aa]at *;omega
def Pw:=fb fC (.not (cmp .lss (.int 1000) (fn 0 (fn 1 (pr N3 (.int 22))))))<|ah fun F p0=>by
 have:=ak p0
 simp only[aa]at *;omega
def akl:=fb fC (.not (cmp .lss (.int 1000) (fn 0 (fn 1 (pr N3 (.int 9))))))<|ah fun F p0=>by
 have:=ak p0
 simp only[aa]at *;omega
def akm:=fb fC (.not (cmp .lss (.int 1000) (fn 0 (fn 1 (pr N3 (.int 23))))))<|ah fun F p0=>by
 have:=ak p0
 simp only[aa]at *;omega
def akn:=fb (Tz::HS) Sj<|DD fun F p0 p1 p2 p3 p4 p5 p6 p7 p8 p9 ai ao aq ax=>by
 have:=ak ax
 have:=@aKv F N5 N4 N3
 have:=@afJ F N5 N4 N3 (.int 0)
 simp only[aa,ae]at *
 obtain⟨a,b,c⟩:=ab ((0)+(E.I F N6))
 simp only[b]at *
 obtain⟨d,f,g⟩:=ab (a+(E.I F N0))
 simp only[f]at *
 obtain⟨i,j,k⟩:=ab (d+(E.I F N7))
 simp only[j]at *
 obtain⟨l,m,n⟩:=ab (i+(E.I F de))
 omega
def ako:=fb ((.not Tz)::Sk::og::Sl::Sn::AM::So::Sp::jK::Sq::Sr::mg::Ss::(.not (cmp .lss (.int 1) N4))::AA::fC) Sj<|qT fun F p0 p1 p2 p3 p4 p5 p6 p7 p8 p9 ai ao aq ax aA aC=>by
 have:=ak aC
 have:=@aKw F N5 N4 N3
 have:=@afJ F N5 N4 N3 (.int 0)
 simp only[aa,ae]at *
 obtain⟨a,b,c⟩:=ab ((0)+(E.I F N6))
 simp only[b]at *
 obtain⟨d,f,g⟩:=ab (a+(E.I F N0))
 simp only[f]at *
 obtain⟨i,j,k⟩:=ab (d+(E.I F N7))
 simp only[j]at *
 obtain⟨l,m,n⟩:=ab (i+(E.I F de))
 omega
def akp:=fb HS Sv<|jr fun F p0 p1 p2 p3 p4 p5 p6 p7 p8 p9 ai ao aq=>by
 have:=ak aq
 simp only[aa,ae]at *
 obtain⟨a,b,c⟩:=ab ((0)+(E.I F N6))
 simp only[b]at *
 obtain⟨d,f,g⟩:=ab (a+(E.I F N0))
 simp only[f]at *
 obtain⟨i,j,k⟩:=ab (d+(E.I F N7))
 simp only[j]at *
 obtain⟨l,m,n⟩:=ab (i+(E.I F de))
 omega
def akq:=fb Sx Sv<|jr fun F p0 p1 p2 p3 p4 p5 p6 p7 p8 p9 ai ao aq=>by
 have:=ak aq
 simp only[aa,ae]at *
 obtain⟨a,b,c⟩:=ab ((0)+(E.I F N6))
 simp only[b]at *
 obtain⟨d,f,g⟩:=ab (a+(E.I F N0))
 simp only[f]at *
 obtain⟨i,j,k⟩:=ab (d+(E.I F N7))
 simp only[j]at *
 obtain⟨l,m,n⟩:=ab (i+(E.I F de))
 omega
def akr:=fb HS Sy<|jr fun F p0 p1 p2 p3 p4 p5 p6 p7 p8 p9 ai ao aq=>by
 have:=ak aq
 simp only[aa,ae]at *
 obtain⟨a,b,c⟩:=ab ((0)+(E.I F N6))
 simp only[b]at *
 obtain⟨d,f,g⟩:=ab (a+(E.I F N0))
 simp only[f]at *
 obtain⟨i,j,k⟩:=ab (d+(E.I F N7))
 simp only[j]at *
 obtain⟨l,m,n⟩:=ab (i+(E.I F de))
 omega
def aks:=fb Sx Sy<|jr fun F p0 p1 p2 p3 p4 p5 p6 p7 p8 p9 ai ao aq=>by
 have:=ak aq
 simp only[aa,ae]at *
 obtain⟨a,b,c⟩:=ab ((0)+(E.I F N6))
 simp only[b]at *
 obtain⟨d,f,g⟩:=ab (a+(E.I F N0))
 simp only[f]at *
 obtain⟨i,j,k⟩:=ab (d+(E.I F N7))
 simp only[j]at *
 obtain⟨l,m,n⟩:=ab (i+(E.I F de))
 omega
def Py:=fb AB (.not (cmp .lss (.ar .add .i64 br (.int 1)) (.int 0)))<|am fun F p0 p1 p2=>by
 have:=ak p0
 simp only[aa,ae]at *
 obtain⟨a,b,c⟩:=ab (E.I F br+1)
 omega
def akt:=fb [AC,HV,HW,AA] (cmp .eql dZ (fn 122 (pr N3 (pr N4 N5))))<|aB fun F p0 p1 p2 p3=>by
 have:=@aKq F N5 N4 N3 br
 simp only[aa]at *;grind
def Pz:=fb AB (.not (cmp .lss (fn 9 (pr (fn 1 (pr N3 (.int 29))) (.int 5))) (.ar .add .i64 br (.int 1))))<|am fun F p0 p1 p2=>by
 simp only[aa,ae]at *
 obtain⟨a,b,c⟩:=ab (E.I F br+1)
 omega
def aku:=fb (AC::HX::HV::HW::fC) (.not (cmp .lss (.int 1000) dZ))<|aK fun F p0 p1 p2 p3 p4=>by
 have:=ak p4
 simp only[aa]at *;omega
def akv:=fb (f6::SA::SB::SC::SE) (cmp .eql (.ar .add .i64 dZ (.int 1)) (fn 6 (pr (fn 132 (pr N3 (pr N4 (pr (.int 4) N5)))) (fn 133 (pr N3 (pr N4 (pr N5 (.ar .add .i64 br (.int 1)))))))))<|di fun F p0 p1 p2 p3 p4 p5 p6 p7 p8=>by
 have:=ak p8
 have:=@bH F br (.int 1)
 have:=@FT F N5 N4 (.ar .add .i64 br (.int 1)) _ _ _ _ (fn 1 (pr (fn 1 (pr N3 _)) (fn 6 (pr (fn 8 (pr br _)) _)))) rfl rfl rfl
 simp only[aa,ae]at *
 obtain⟨a,b,c⟩:=ab (E.I F dZ+1)
 omega
def akw:=fb (f6::(.not SC)::vZ) HY<|aK fun F p0 p1 p2 p3 p4=>by
 have:=ak p4
 have:=@bH F br (.int 1)
 have:=@FT F N5 N4 (.ar .add .i64 br (.int 1)) _ _ _ _ (fn 1 (pr (fn 1 (pr N3 _)) (fn 6 (pr (fn 8 (pr br _)) _)))) rfl rfl rfl
 simp only[aa]at *;grind
def akx:=fb (f6::(.not SB)::vZ) HY<|aK fun F p0 p1 p2 p3 p4=>by
 have:=ak p4
 have:=@bH F br (.int 1)
 have:=@FT F N5 N4 (.ar .add .i64 br (.int 1)) _ _ _ _ (fn 1 (pr (fn 1 (pr N3 _)) (fn 6 (pr (fn 8 (pr br _)) _)))) rfl rfl rfl
 simp only[aa]at *;grind
def aky:=fb (f6::(.not SA)::vZ) HY<|aK fun F p0 p1 p2 p3 p4=>by
 have:=ak p4
 have:=@bH F br (.int 1)
 have:=@FT F N5 N4 (.ar .add .i64 br (.int 1)) _ _ _ _ (fn 1 (pr (fn 1 (pr N3 _)) (fn 6 (pr (fn 8 (pr br _)) _)))) rfl rfl rfl
 simp only[aa]at *;grind
def akz:=fb SF SG<|bL fun F p0 p1 p2 p3 p4 p5=>by
 have:=ak p5
 simp only[aa,ae]at *
 obtain⟨a,b,c⟩:=ab (E.I F dZ+1)
 omega
def akA:=fb (f6::HX::vZ) (.not (cmp .lss (fn 6 (pr (.int 160) (.ar .add .i64 br (.int 1)))) dZ))<|aK fun F p0 p1 p2 p3 p4=>by
 have:=ak p4
 simp only[aa,ae]at *
 obtain⟨a,b,c⟩:=ab (E.I F br+1)
 omega
def akB:=fb SF (.not (cmp .lss (fn 6 (pr (.int 160) (.ar .add .i64 br (.int 1)))) (.ar .add .i64 dZ (.int 1))))<|bL fun F p0 p1 p2 p3 p4 p5=>by
 have:=ak p5
 simp only[aa,ae]at *
 obtain⟨a,b,c⟩:=ab (E.I F br+1)
 obtain⟨d,f,g⟩:=ab (E.I F dZ+1)
 omega
def PA:=fb AB (cmp .lss (fn 7 (pr (fn 9 (pr (fn 1 (pr N3 (.int 29))) (.int 5))) (.ar .add .i64 br (.int 1)))) (fn 7 (pr (fn 9 (pr (fn 1 (pr N3 (.int 29))) (.int 5))) br)))<|am fun F p0 p1 p2=>by
 have:=ak p0
 simp only[aa,ae]at *
 obtain⟨a,b,c⟩:=ab (E.I F br+1)
 omega
def PB:=fb AB (.not (cmp .lss (fn 7 (pr (fn 9 (pr (fn 1 (pr N3 (.int 29))) (.int 5))) (.ar .add .i64 br (.int 1)))) (.int 0)))<|am fun F p0 p1 p2=>by
 simp only[aa,ae]at *
 obtain⟨a,b,c⟩:=ab (E.I F br+1)
 omega
def bV:List Fa:=[akh,aki,akj,akk,Pv,Pw,akl,akm,lU,akn,ako,akp,akq,akr,aks,Py,akt,Pz,aku,akv,akw,akx,aky,akz,akA,akB,PA,PB]
theorem aIW:aR Tryz.prog (bj (aIv)):=sc bV (aDi) acL ([]) (by kernel_rfl) (by kernel_rfl)
def acM:Nl:=nc aIW acL
def akC:=fb [gV,gW,iA,SH] ja<|aB fun F p0 p1 p2 p3=>by
 have:=@cg F N3 N4 N5 N6 N0 N7 de fM aO
 simp only[aa]at *;grind
def akD:=fb (gV::gW::iA::jJ::AA::kK::(.not mh)::SJ) ja<|di fun F p0 p1 p2 p3 p4 p5 p6 p7 p8=>by
 have:=@cg F N3 N4 N5 N6 N0 N7 de fM aO
 simp only[aa]at *;grind
def akE:=fb [gV,gW,iA,jJ,kK,mh,TA] ja<|cV fun F p0 p1 p2 p3 p4 p5 p6=>by
 have:=@cg F N3 N4 N5 N6 N0 N7 de fM aO
 simp only[aa]at *;grind
def akF:=fb [gV,gW,iA,jJ,kK,mh,jK,Si] ja<|c9 fun F p0 p1 p2 p3 p4 p5 p6 p7=>by
 have:=@cg F N3 N4 N5 N6 N0 N7 de fM aO
 simp only[aa]at *;grind
def akG:=fb [gV,gW,iA,jJ,kK,mh,jK,mg,SK] ja<|di fun F p0 p1 p2 p3 p4 p5 p6 p7 p8=>by
 have:=@cg F N3 N4 N5 N6 N0 N7 de fM aO
 simp only[aa]at *;grind
def akH:=fb [gV,gW,iA,jJ,kK,mh,jK,mg,AD,Tn] ja<|eR fun F p0 p1 p2 p3 p4 p5 p6 p7 p8 p9=>by
 have:=@cg F N3 N4 N5 N6 N0 N7 de fM aO
 simp only[aa]at *;grind
def akI:=fb (gV::gW::iA::jJ::kK::mh::jK::mg::AD::pO::H0::(.not H2)::SO) SQ<|tB fun F p0 p1 p2 p3 p4 p5 p6 p7 p8 p9 ai ao aq ax aA=>by
 have:=@cg F N3 N4 N5 N6 N0 N7 de fM aO
 simp only[aa]at *;grind
def akJ:=fb [gV,gW,iA,jJ,kK,mh,jK,mg,AD,SN] ja<|eR fun F p0 p1 p2 p3 p4 p5 p6 p7 p8 p9=>by
 have:=@cg F N3 N4 N5 N6 N0 N7 de fM aO
 simp only[aa]at *;grind
def akK:=fb [gV,gW,iA,jJ,kK,mh,jK,mg,SM] ja<|di fun F p0 p1 p2 p3 p4 p5 p6 p7 p8=>by
 have:=@cg F N3 N4 N5 N6 N0 N7 de fM aO
 simp only[aa]at *;grind
def akL:=fb [gV,gW,iA,jJ,kK,mh,jK,SL] ja<|c9 fun F p0 p1 p2 p3 p4 p5 p6 p7=>by
 have:=@cg F N3 N4 N5 N6 N0 N7 de fM aO
 simp only[aa]at *;grind
def akM:=fb (gV::gW::iA::jJ::AA::(.not kK)::SJ) ja<|c9 fun F p0 p1 p2 p3 p4 p5 p6 p7=>by
 have:=@cg F N3 N4 N5 N6 N0 N7 de fM aO
 simp only[aa]at *;grind
def akN:=fb (gV::gW::iA::jJ::Su::og::AM::jK::mg::AD::pO::H0::(.not (cmp .lss (.int 99) N6))::(.not (cmp .lss (.int 99) N0))::SO) SQ<|tC fun F p0 p1 p2 p3 p4 p5 p6 p7 p8 p9 ai ao aq ax aA aC aL=>by
 have:=@cg F N3 N4 N5 N6 N0 N7 de fM aO
 simp only[aa]at *;grind
def akO:=fb [gV,gW,H5] ja<|am fun F p0 p1 p2=>by
 have:=@cg F N3 N4 N5 N6 N0 N7 de fM aO
 simp only[aa]at *;grind
def akP:=fb [gV,gW,H2] ja<|am fun F p0 p1 p2=>by
 have:=@cg F N3 N4 N5 N6 N0 N7 de fM aO
 simp only[aa]at *;grind
def co:List Fa:=[akC,akD,akE,akF,akG,akH,akI,akJ,akK,akL,akM,Qe,Qd,Qc,Qb,P3,PU,akN,PN,PM,PL,PK,PJ,akO,akP,PO,PP,PQ]
theorem aIX:aR Tryz.prog (bj (afo 84)):=sc co ([]) acM ([]) (by kernel_rfl) (by kernel_rfl)
def acN:Nl:=nc aIX acM
def akQ:=fb fC (cmp .eql (.ar .add .i64 (.ar .add .i64 (.ar .add .i64 (.ar .add .i64 (.ar .add .i64 (.ar .add .i64 (.ar .add .i64 (.ar .add .i64 (.int 0) (fn 0 (fn 1 (pr N3 (.int 6))))) (fn 0 (fn 1 (pr N3 (.int 7))))) (fn 0 (fn 1 (pr N3 (.int 8))))) (fn 0 (fn 1 (pr N3 (.int 9))))) (fn 0 (fn 1 (pr N3 (.int 20))))) (fn 0 (fn 1 (pr N3 (.int 21))))) (fn 0 (fn 1 (pr N3 (.int 22))))) (fn 0 (fn 1 (pr N3 (.int 23))))) (fn 6 (pr (fn 134 (pr N3 (.int 8))) (fn 135 (pr N3 (.int 0))))))<|ah fun F p0=>by
 have:=ak p0
 have:=@aKx F N3
 have:=@aKz F N3 (.int 0)
 simp only[aa,ae]at *
 have:=@cP F (fn 1 (pr N3 (.int 6)))
 have:=@cP F (fn 1 (pr N3 (.int 7)))
 have:=@cP F (fn 1 (pr N3 (.int 8)))
 have:=@cP F (fn 1 (pr N3 (.int 9)))
 have:=@cP F (fn 1 (pr N3 (.int 20)))
 have:=@cP F (fn 1 (pr N3 (.int 21)))
 have:=@cP F (fn 1 (pr N3 (.int 22)))
 have:=@cP F (fn 1 (pr N3 (.int 23)))
 obtain⟨a,b,c⟩:=ab ((0)+(E.I F (fn 0 (fn 1 (pr N3 (.int 6))))))
 obtain⟨d,f,g⟩:=ab (a+(E.I F (fn 0 (fn 1 (pr N3 (.int 7))))))
 obtain⟨i,j,k⟩:=ab (d+(E.I F (fn 0 (fn 1 (pr N3 (.int 8))))))
 obtain⟨l,m,n⟩:=ab (i+(E.I F (fn 0 (fn 1 (pr N3 (.int 9))))))
 obtain⟨o,r,s⟩:=ab (l+(E.I F (fn 0 (fn 1 (pr N3 (.int 20))))))
 obtain⟨t,u,v⟩:=ab (o+(E.I F (fn 0 (fn 1 (pr N3 (.int 21))))))
 obtain⟨w,x,y⟩:=ab (t+(E.I F (fn 0 (fn 1 (pr N3 (.int 22))))))
 obtain⟨z,ea17,qa17⟩:=ab (w+(E.I F (fn 0 (fn 1 (pr N3 (.int 23))))))
 grind
def akR:=fb fC (.not (cmp .lss (.ar .add .i64 (.ar .add .i64 (.ar .add .i64 (.ar .add .i64 (.ar .add .i64 (.ar .add .i64 (.ar .add .i64 (.ar .add .i64 (.int 0) (fn 0 (fn 1 (pr N3 (.int 6))))) (fn 0 (fn 1 (pr N3 (.int 7))))) (fn 0 (fn 1 (pr N3 (.int 8))))) (fn 0 (fn 1 (pr N3 (.int 9))))) (fn 0 (fn 1 (pr N3 (.int 20))))) (fn 0 (fn 1 (pr N3 (.int 21))))) (fn 0 (fn 1 (pr N3 (.int 22))))) (fn 0 (fn 1 (pr N3 (.int 23))))) (.int 0)))<|ah fun F p0=>by
 have:=ak p0
 simp only[aa,ae]at *
 have:=@cP F (fn 1 (pr N3 (.int 6)))
 have:=@cP F (fn 1 (pr N3 (.int 7)))
 have:=@cP F (fn 1 (pr N3 (.int 8)))
 have:=@cP F (fn 1 (pr N3 (.int 9)))
 have:=@cP F (fn 1 (pr N3 (.int 20)))
 have:=@cP F (fn 1 (pr N3 (.int 21)))
 have:=@cP F (fn 1 (pr N3 (.int 22)))
 have:=@cP F (fn 1 (pr N3 (.int 23)))
 obtain⟨a,b,c⟩:=ab ((0)+(E.I F (fn 0 (fn 1 (pr N3 (.int 6))))))
 obtain⟨d,f,g⟩:=ab (a+(E.I F (fn 0 (fn 1 (pr N3 (.int 7))))))
 obtain⟨i,j,k⟩:=ab (d+(E.I F (fn 0 (fn 1 (pr N3 (.int 8))))))
 obtain⟨l,m,n⟩:=ab (i+(E.I F (fn 0 (fn 1 (pr N3 (.int 9))))))
 obtain⟨o,r,s⟩:=ab (l+(E.I F (fn 0 (fn 1 (pr N3 (.int 20))))))
 obtain⟨t,u,v⟩:=ab (o+(E.I F (fn 0 (fn 1 (pr N3 (.int 21))))))
 obtain⟨w,x,y⟩:=ab (t+(E.I F (fn 0 (fn 1 (pr N3 (.int 22))))))
 obtain⟨z,ea15,qa15⟩:=ab (w+(E.I F (fn 0 (fn 1 (pr N3 (.int 23))))))
 grind
def akS:=fb fC (.not (cmp .lss (.int 320) (.ar .add .i64 (.ar .add .i64 (.ar .add .i64 (.ar .add .i64 (.ar .add .i64 (.ar .add .i64 (.ar .add .i64 (.ar .add .i64 (.int 0) (fn 0 (fn 1 (pr N3 (.int 6))))) (fn 0 (fn 1 (pr N3 (.int 7))))) (fn 0 (fn 1 (pr N3 (.int 8))))) (fn 0 (fn 1 (pr N3 (.int 9))))) (fn 0 (fn 1 (pr N3 (.int 20))))) (fn 0 (fn 1 (pr N3 (.int 21))))) (fn 0 (fn 1 (pr N3 (.int 22))))) (fn 0 (fn 1 (pr N3 (.int 23)))))))<|ah fun F p0=>by
 have:=ak p0
 simp only[aa,ae]at *
 have:=@cP F (fn 1 (pr N3 (.int 6)))
 have:=@cP F (fn 1 (pr N3 (.int 7)))
 have:=@cP F (fn 1 (pr N3 (.int 8)))
 have:=@cP F (fn 1 (pr N3 (.int 9)))
 have:=@cP F (fn 1 (pr N3 (.int 20)))
 have:=@cP F (fn 1 (pr N3 (.int 21)))
 have:=@cP F (fn 1 (pr N3 (.int 22)))
 have:=@cP F (fn 1 (pr N3 (.int 23)))
 obtain⟨a,b,c⟩:=ab ((0)+(E.I F (fn 0 (fn 1 (pr N3 (.int 6))))))
 obtain⟨d,f,g⟩:=ab (a+(E.I F (fn 0 (fn 1 (pr N3 (.int 7))))))
 obtain⟨i,j,k⟩:=ab (d+(E.I F (fn 0 (fn 1 (pr N3 (.int 8))))))
 obtain⟨l,m,n⟩:=ab (i+(E.I F (fn 0 (fn 1 (pr N3 (.int 9))))))
 obtain⟨o,r,s⟩:=ab (l+(E.I F (fn 0 (fn 1 (pr N3 (.int 20))))))
 obtain⟨t,u,v⟩:=ab (o+(E.I F (fn 0 (fn 1 (pr N3 (.int 21))))))
 obtain⟨w,x,y⟩:=ab (t+(E.I F (fn 0 (fn 1 (pr N3 (.int 22))))))
 obtain⟨z,ea15,qa15⟩:=ab (w+(E.I F (fn 0 (fn 1 (pr N3 (.int 23))))))
 grind
def akT:=fa ((fn 123 (pr N3 (.int 0))))<|fun F=>by
 rfl
def akU:=fb (f6::sj::H3::(.not SR)::H4) sm<|bL fun F p0 p1 p2 p3 p4 p5=>by
 have:=@F8 F (fn 6 (pr br (.int 1))) _ _ p4 _ _ _ _ (fn 1 (pr _ (fn 6 (pr (fn 8 (pr sk _)) _)))) rfl rfl rfl rfl
 simp only[aa]at *;grind
def akV:=fb (f6::sj::H3::SU::H4) sm<|bL fun F p0 p1 p2 p3 p4 p5=>by
 have:=@F8 F (fn 6 (pr br (.int 1))) _ _ p4 _ _ _ _ (fn 1 (pr _ (fn 6 (pr (fn 8 (pr sk _)) _)))) rfl rfl rfl rfl
 simp only[aa]at *;grind
def akW:=fb (AC::SW::SY) (cmp .eql dZ (fn 6 (pr (fn 134 (pr N3 (.int 8))) (fn 135 (pr N3 (fn 9 (pr (fn 1 (pr N3 (.int 29))) (.int 5))))))))<|am fun F p0 p1 p2=>by
 have:=@aKy F (fn 9 (pr (fn 1 (pr N3 (.int 29))) (.int 5))) N3 br
 simp only[aa]at *;grind
def akX:=fb (AC::kM::SS::SY) SZ<|aB fun F p0 p1 p2 p3=>by
 have g0:E.I F (fn 9 (pr (fn 1 (pr N3 (.int 29))) (.int 5)))=E.I F br:=by
  simp only[aa]at *;omega
 grind[aKr]
def akY:=fb (f6::(.not sj)::kM::H6) (cmp .eql dZ (fn 6 (pr (fn 134 (pr N3 (.int 8))) (fn 135 (pr N3 (.ar .add .i64 br (.int 1)))))))<|aK fun F p0 p1 p2 p3 p4=>by
 have:=ak p2
 have:=@bH F br (.int 1)
 have:=@afK F (.ar .add .i64 br (.int 1)) _ _ (fn 1 (pr (fn 1 (pr N3 _)) (fn 6 (pr (fn 8 (pr br _)) _)))) rfl
 simp only[aa]at *;grind
def akZ:=fb (f6::sj::S1) (cmp .eql (.ar .add .i64 dZ (.int 1)) (fn 6 (pr (fn 134 (pr N3 (.int 8))) (fn 135 (pr N3 (.ar .add .i64 br (.int 1)))))))<|cV fun F p0 p1 p2 p3 p4 p5 p6=>by
 have:=ak p2
 have:=@bH F br (.int 1)
 have:=@afK F (.ar .add .i64 br (.int 1)) _ _ (fn 1 (pr (fn 1 (pr N3 _)) (fn 6 (pr (fn 8 (pr br _)) _)))) rfl
 simp only[aa,ae]at *
 obtain⟨a,b,c⟩:=ab (E.I F dZ+1)
 omega
def ak0:=fa ((fn 124 (pr N3 (.int 0))))<|fun F=>by
 rfl
def ak1:=fb (f6::kM::S0::H6) (.not (cmp .lss (fn 6 (pr (.int 320) (.ar .add .i64 br (.int 1)))) dZ))<|aK fun F p0 p1 p2 p3 p4=>by
 have:=ak p1
 simp only[aa,ae]at *
 obtain⟨a,b,c⟩:=ab (E.I F br+1)
 omega
def ak2:=fb S2 SG<|bL fun F p0 p1 p2 p3 p4 p5=>by
 have:=ak p1
 simp only[aa,ae]at *
 obtain⟨a,b,c⟩:=ab (E.I F dZ+1)
 omega
def ak3:=fb H7 (.not (cmp .lss (.ar .sub .i64 aY (.int 1)) (.int 0)))<|am fun F p0 p1 p2=>by
 have:=ak p0
 simp only[aa,ae]at *
 obtain⟨a,b,c⟩:=ab ((E.I F aY)-(1))
 omega
def ak4:=fb [oh,ml] (.not (cmp .lss (fn 1 (pr (fn 1 (pr N3 (.int 0))) (fn 6 (pr (fn 8 (pr aY (.int 12))) (.int 2))))) (.int 0)))<|ap fun F p0 p1=>by
 have:=@cg F (fn 1 (pr (fn 1 (pr N3 (.int 0))) (fn 6 (pr (fn 8 (pr aY (.int 12))) (.int 0))))) (fn 1 (pr (fn 1 (pr N3 (.int 0))) (fn 6 (pr (fn 8 (pr aY (.int 12))) (.int 1))))) (fn 1 (pr (fn 1 (pr N3 (.int 0))) (fn 6 (pr (fn 8 (pr aY (.int 12))) (.int 2))))) (fn 1 (pr (fn 1 (pr N3 (.int 0))) (fn 6 (pr (fn 8 (pr aY (.int 12))) (.int 3))))) (fn 1 (pr (fn 1 (pr N3 (.int 0))) (fn 6 (pr (fn 8 (pr aY (.int 12))) (.int 4))))) (fn 1 (pr (fn 1 (pr N3 (.int 0))) (fn 6 (pr (fn 8 (pr aY (.int 12))) (.int 5))))) (fn 1 (pr (fn 1 (pr N3 (.int 0))) (fn 6 (pr (fn 8 (pr aY (.int 12))) (.int 6))))) (fn 1 (pr (fn 1 (pr N3 (.int 0))) (fn 6 (pr (fn 8 (pr aY (.int 12))) (.int 7))))) (fn 1 (pr (fn 1 (pr N3 (.int 0))) (fn 6 (pr (fn 8 (pr aY (.int 12))) (.int 8)))))
 simp only[aa]at *;grind
def ak5:=fb [(.not mj),H8,SZ,(cmp .eql (var 25) (fn 6 (pr (fn 134 (pr N3 (.int 8))) (fn 135 (pr N3 (fn 9 (pr (fn 1 (pr N3 (.int 29))) (.int 5)))))))),(.not (cmp .lss (fn 9 (pr (fn 1 (pr N3 (.int 0))) (.int 12))) aY))] (.iff (cmp .eql (var 25) (fn 9 (pr (fn 1 (pr N3 (.int 0))) (.int 12)))) (fn 125 N3))<|aK fun F p0 p1 p2 p3 p4=>by
 have:=@aLr F _ _ (var 25) p2 p1
 simp only[aa]at *;grind
def ak6:=fb (f6::(.not sj)::S3) S4<|aK fun F p0 p1 p2 p3 p4=>by
 have:=ak p2
 have:=@bH F br (.int 1)
 have:=@F8 F (.ar .add .i64 br (.int 1)) _ _ p3 _ _ _ _ (fn 1 (pr _ (fn 6 (pr (fn 8 (pr (.int 0) _)) _)))) rfl rfl rfl rfl
 simp only[aa]at *;grind
def ak7:=fb S2 (.not (cmp .lss (fn 6 (pr (.int 320) (.ar .add .i64 br (.int 1)))) (.ar .add .i64 dZ (.int 1))))<|bL fun F p0 p1 p2 p3 p4 p5=>by
 have:=ak p1
 simp only[aa,ae]at *
 obtain⟨a,b,c⟩:=ab (E.I F br+1)
 obtain⟨d,f,g⟩:=ab (E.I F dZ+1)
 omega
def ak8:=fb AE (cmp .lss (.ar .sub .i64 aY (.int 1)) (fn 9 (pr (fn 1 (pr N3 (.int 0))) (.int 12))))<|ap fun F p0 p1=>by
 simp only[aa,ae]at *
 obtain⟨a,b,c⟩:=ab ((E.I F aY)-(1))
 omega
def ak9:=fb [oh,ml] (.not (cmp .lss (.int 1) (fn 1 (pr (fn 1 (pr N3 (.int 0))) (fn 6 (pr (fn 8 (pr aY (.int 12))) (.int 2)))))))<|ap fun F p0 p1=>by
 have:=@cg F (fn 1 (pr (fn 1 (pr N3 (.int 0))) (fn 6 (pr (fn 8 (pr aY (.int 12))) (.int 0))))) (fn 1 (pr (fn 1 (pr N3 (.int 0))) (fn 6 (pr (fn 8 (pr aY (.int 12))) (.int 1))))) (fn 1 (pr (fn 1 (pr N3 (.int 0))) (fn 6 (pr (fn 8 (pr aY (.int 12))) (.int 2))))) (fn 1 (pr (fn 1 (pr N3 (.int 0))) (fn 6 (pr (fn 8 (pr aY (.int 12))) (.int 3))))) (fn 1 (pr (fn 1 (pr N3 (.int 0))) (fn 6 (pr (fn 8 (pr aY (.int 12))) (.int 4))))) (fn 1 (pr (fn 1 (pr N3 (.int 0))) (fn 6 (pr (fn 8 (pr aY (.int 12))) (.int 5))))) (fn 1 (pr (fn 1 (pr N3 (.int 0))) (fn 6 (pr (fn 8 (pr aY (.int 12))) (.int 6))))) (fn 1 (pr (fn 1 (pr N3 (.int 0))) (fn 6 (pr (fn 8 (pr aY (.int 12))) (.int 7))))) (fn 1 (pr (fn 1 (pr N3 (.int 0))) (fn 6 (pr (fn 8 (pr aY (.int 12))) (.int 8)))))
 simp only[aa]at *;grind
def ala:=fb (f6::sj::H3::(.not SU)::SR::S3) S4<|c9 fun F p0 p1 p2 p3 p4 p5 p6 p7=>by
 have:=ak p5
 have:=@bH F br (.int 1)
 have:=@F8 F (.ar .add .i64 br (.int 1)) _ _ p6 _ _ _ _ (fn 1 (pr _ (fn 6 (pr (fn 8 (pr sk _)) _)))) rfl rfl rfl rfl
 simp only[aa]at *;grind
def alb:=fb (mj::oh::ml::H9::AF::(.not AG)::S8) sm<|c9 fun F p0 p1 p2 p3 p4 p5 p6 p7=>by
 have:=@u7 F _ (fn 6 (pr aY (.int 1))) _ p6 (.ar .sub .i64 aY (.int 1)) _ _ _ _ _ _ _ _ _ rfl rfl rfl rfl rfl rfl rfl rfl rfl
 simp only[aa]at *;grind
def alc:=fb Ia S9<|ap fun F p0 p1=>by
 simp only[aa,ae]at *
 obtain⟨a,b,c⟩:=ab (E.I F aY+1)
 omega
def ald:=fb (mj::oh::ml::v7::Ib::AF::(.not AG)::AH) sm<|eR fun F p0 p1 p2 p3 p4 p5 p6 p7 p8 p9=>by
 have:=ak p9
 have:=@kz F aY (.int 1)
 have:=@u7 F _ (fn 6 (pr aY (.int 1))) _ p7 (.ar .sub .i64 aY (.int 1)) _ _ _ _ _ _ _ _ _ rfl rfl rfl rfl rfl rfl rfl rfl rfl
 simp only[aa]at *;grind
def ale:=fb H7 S9<|am fun F p0 p1 p2=>by
 have:=ak p0
 simp only[aa,ae]at *
 obtain⟨a,b,c⟩:=ab (E.I F aY+1)
 omega
def alf:=fb (mj::oh::ml::v7::(.not Ib)::AH) sm<|c9 fun F p0 p1 p2 p3 p4 p5 p6 p7=>by
 have:=ak p7
 have:=@kz F aY (.int 1)
 have:=@u7 F _ (fn 6 (pr aY (.int 1))) _ p5 (.ar .sub .i64 aY (.int 1)) _ _ _ _ _ _ _ _ _ rfl rfl rfl rfl rfl rfl rfl rfl rfl
 simp only[aa]at *;grind
def alg:=fb (mj::oh::(.not ml)::AH) sm<|bL fun F p0 p1 p2 p3 p4 p5=>by
 have:=ak p5
 have:=@kz F aY (.int 1)
 have:=@u7 F _ (fn 6 (pr aY (.int 1))) _ p3 (.ar .sub .i64 aY (.int 1)) _ _ _ _ _ _ _ _ _ rfl rfl rfl rfl rfl rfl rfl rfl rfl
 simp only[aa]at *;grind
def alh:=fb Tb Tc<|am fun F p0 p1 p2=>by
 simp only[aa,ae]at *
 obtain⟨a,b,c⟩:=ab (E.I F aY+1)
 omega
def ali:=fb AE Tc<|ap fun F p0 p1=>by
 simp only[aa,ae]at *
 obtain⟨a,b,c⟩:=ab (E.I F aY+1)
 omega
def alj:=fb (mj::oh::ml::H9::AF::AG::S8) Td<|c9 fun F p0 p1 p2 p3 p4 p5 p6 p7=>by
 have:=@bH F aY (.int 1)
 have:=@u7 F _ (.ar .add .i64 aY (.int 1)) _ p6 (.ar .sub .i64 aY (.int 1)) _ _ _ _ _ _ _ _ _ rfl rfl rfl rfl rfl rfl rfl rfl rfl
 simp only[aa]at *;grind
def alk:=fb (mj::oh::ml::v7::Ib::AF::AG::AH) Td<|eR fun F p0 p1 p2 p3 p4 p5 p6 p7 p8 p9=>by
 have:=ak p9
 have:=@kz F aY (.int 1)
 have:=@bH F aY (.int 1)
 have:=@u7 F _ (.ar .add .i64 aY (.int 1)) _ p7 (.ar .sub .i64 aY (.int 1)) _ _ _ _ _ _ _ _ _ rfl rfl rfl rfl rfl rfl rfl rfl rfl
 simp only[aa]at *;grind
def alm:=fb Ia Te<|ap fun F p0 p1=>by
 simp only[aa,ae]at *
 obtain⟨a,b,c⟩:=ab (E.I F aY+1)
 omega
def aln:=fb H7 Te<|am fun F p0 p1 p2=>by
 have:=ak p0
 simp only[aa,ae]at *
 obtain⟨a,b,c⟩:=ab (E.I F aY+1)
 omega
def alo:=fb Tb Tg<|am fun F p0 p1 p2=>by
 simp only[aa,ae]at *
 obtain⟨a,b,c⟩:=ab (E.I F aY+1)
 omega
def alp:=fb AE Tg<|ap fun F p0 p1=>by
 simp only[aa,ae]at *
 obtain⟨a,b,c⟩:=ab (E.I F aY+1)
 omega
def cp:List Fa:=[lU,Aa,akQ,akR,akS,akT,Py,akU,akV,akW,Pz,akX,akY,akZ,ak0,ak1,ak2,ak3,ak4,ak5,ak6,ak7,ak8,ak9,PA,ala,PB,alb,alc,ald,ale,alf,alg,alh,ali,alj,alk,alm,aln,alo,alp]
theorem aIY:aR Tryz.prog (bj (aIc)):=sc cp (aC7) acN ([]) (by kernel_rfl) (by kernel_rfl)
def acO:Nl:=nc aIY acN
end
end Go.Proofs.YtnggbcblogpnfaaGreat.combatAttacks
