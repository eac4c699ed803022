/-
  CombatBlocks: contracts of functions, part 7.
-/
import Derived.Test.YtnggbcblogpnfaaGreatCombatBlocksPartf
namespace Go.Proofs.YtnggbcblogpnfaaGreat.combatBlocks
open Go.ChangeShapes Go.WideShapes Go.ChangeAt Go.RowKit
open Go.SX
open Go.SX.E (fn pr cmp var)
set_option linter.unusedVariables false
set_option linter.unusedSimpArgs false
set_option maxRecDepth 100000
noncomputable section
abbrev N0:E:=var 4
abbrev N1:E:=cmp .lss (.int 4) (fn 9 (pr N0 (.int 2)))
abbrev N2:E:=.bool false
abbrev N3:E:=var 0
abbrev N4:E:=var 1
abbrev N5:E:=var 2
abbrev N6:E:=var 3
abbrev N7:E:=var 5
abbrev N8:E:=pr N6 (pr N0 N7)
abbrev N9:E:=pr N5 N8
abbrev N10:E:=pr N4 N9
abbrev N11:E:=pr N3 N10
abbrev Tg:E:=fn 102 N11
abbrev gO:E:=.iff N2 Tg
abbrev Tq:E:=cmp .lss (.int 0) (fn 9 (pr N0 (.int 2)))
abbrev Ig:E:=cmp .lss N6 (.int 0)
abbrev oG:E:=.not Ig
abbrev wN:E:=.imp oG (cmp .eql (fn 9 (pr N0 (.int 2))) (.int 0))
abbrev Il:E:=.not N1
abbrev In:E:=cmp .lss (.int 1) N6
abbrev TK:E:=cmp .lss (.int 399) N5
abbrev Ir:E:=cmp .lss N5 (.int 0)
abbrev iN:E:=.not Ir
abbrev TX:E:=cmp .lss (.int 500) N4
abbrev Uc:E:=cmp .lss N4 (.int 1)
abbrev Uh:E:=cmp .lss (.int 1) N3
abbrev N26:E:=cmp .lss N3 (.int 0)
abbrev N27:E:=.not N26
abbrev N28:=[N27]
abbrev N29:List E:=(.not Uh)::N28
abbrev N30:List E:=(.not Uc)::N29
abbrev N31:List E:=(.not TX)::N30
abbrev N32:=iN::N31
abbrev Uj:List E:=(.not TK)::N32
abbrev Iy:E:=cmp .lss N6 (.int (-1))
abbrev sP:E:=.imp N7 oG
abbrev aK:E:=var 8
abbrev jo:E:=cmp .lss aK (fn 9 (pr N0 (.int 2)))
abbrev Uk:E:=cmp .lss (fn 1 (pr N0 (fn 6 (pr (fn 8 (pr aK (.int 2))) (.int 0))))) (.int 0)
abbrev sQ:E:=.not Uk
abbrev Ul:E:=cmp .lss (fn 1 (pr N0 (fn 6 (pr (fn 8 (pr aK (.int 2))) (.int 1))))) (.int 0)
abbrev AU:E:=.not Ul
abbrev AV:E:=cmp .lss (.int 1) (fn 1 (pr N0 (fn 6 (pr (fn 8 (pr aK (.int 2))) (.int 1)))))
abbrev Um:E:=cmp .lss (.int 0) (fn 1 (pr N0 (fn 6 (pr (fn 8 (pr aK (.int 2))) (.int 0)))))
abbrev Un:E:=cmp .eql (fn 1 (pr N0 (fn 6 (pr (fn 8 (pr aK (.int 2))) (.int 1))))) (.int 0)
abbrev Iz:E:=cmp .lss (.int 500) (fn 1 (pr N0 (fn 6 (pr (fn 8 (pr aK (.int 2))) (.int 0)))))
abbrev Uo:E:=cmp .lss aK (.int 0)
abbrev qg:E:=.not Uo
abbrev N48:List E:=(.not Iy)::Uj
abbrev N49:List E:=(.not In)::N48
abbrev Up:=Il::N49
abbrev lj:=[qg]
abbrev N52:E:=pr N0 aK
abbrev Uq:E:=fn 101 N52
abbrev N54:=[Il]
abbrev IA:=qg::N54
abbrev N56:E:=cmp .lss (.ar .add .i64 aK (.int 1)) (.int 0)
abbrev IB:E:=.not N56
abbrev N58:=Uq::IA
abbrev Ur:List E:=(.not Iz)::N58
abbrev N60:E:=pr N0 (.ar .add .i64 aK (.int 1))
abbrev Us:E:=fn 101 N60
abbrev mM:E:=cmp .lss aK (fn 0 N3)
abbrev N63:E:=cmp .lss (.int 1000) (fn 0 N3)
abbrev N64:E:=.not N63
abbrev N65:=[N64]
abbrev Ut:=qg::N65
abbrev Uu:=mM::Ut
abbrev iO:E:=var 9
abbrev IC:E:=cmp .eql iO (fn 131 (pr N3 (pr N4 aK)))
abbrev N70:E:=cmp .lss aK iO
abbrev ID:E:=.not N70
abbrev Uv:E:=cmp .eql (fn 1 (pr N3 aK)) N4
abbrev N73:E:=cmp .lss iO (.int 0)
abbrev N74:E:=.not N73
abbrev Uw:=IC::Ut
abbrev N76:=N74::Uw
abbrev IE:=ID::N76
abbrev Ux:=mM::IE
abbrev AW:E:=cmp .lss aK (fn 9 (pr (fn 1 (pr N3 (.int 0))) (.int 12)))
abbrev Uy:E:=cmp .eql (fn 1 (pr (fn 1 (pr N3 (.int 0))) (fn 6 (pr (fn 8 (pr aK (.int 12))) (.int 0))))) N4
abbrev IF:E:=cmp .eql (fn 120 (pr N3 (pr N4 aK))) (.int (-1))
abbrev lk:E:=fn 117 N3
abbrev AX:=AW::lj
abbrev fM:=[lk]
abbrev Uz:E:=cmp .eql N4 (.int 0)
abbrev N86:E:=cmp .lss (fn 0 (fn 1 (pr N3 (.int 6)))) N6
abbrev N87:E:=.not N86
abbrev N88:E:=cmp .eql N6 (fn 121 (pr (fn 1 (pr N3 (.int 6))) N5))
abbrev N89:E:=cmp .lss (fn 0 (fn 1 (pr N3 (.int 7)))) N0
abbrev N90:E:=.not N89
abbrev AY:E:=.not (cmp .lss N0 (.int 0))
abbrev N92:E:=cmp .eql N0 (fn 121 (pr (fn 1 (pr N3 (.int 7))) N5))
abbrev N93:E:=cmp .lss (fn 0 (fn 1 (pr N3 (.int 8)))) N7
abbrev N94:E:=.not N93
abbrev UA:E:=cmp .lss N7 (.int 0)
abbrev jV:E:=.not UA
abbrev N97:E:=cmp .eql N7 (fn 121 (pr (fn 1 (pr N3 (.int 8))) N5))
abbrev dv:E:=var 6
abbrev N99:E:=cmp .lss (fn 0 (fn 1 (pr N3 (.int 9)))) dv
abbrev ayv:E:=.not N99
abbrev Tc:E:=cmp .lss dv (.int 0)
abbrev mI:E:=.not Tc
abbrev ayw:E:=cmp .eql dv (fn 121 (pr (fn 1 (pr N3 (.int 9))) N5))
abbrev ayx:=ayw::fM
abbrev ayy:=mI::ayx
abbrev ayz:=ayv::ayy
abbrev ayA:=N97::ayz
abbrev ayB:=jV::ayA
abbrev ayC:=N94::ayB
abbrev ayD:=N92::ayC
abbrev ayE:=AY::ayD
abbrev ayF:=N90::ayE
abbrev ayG:=N88::ayF
abbrev ayH:=oG::ayG
abbrev Ie:=N87::ayH
abbrev Td:E:=cmp .eql (.ar .add .i64 (.ar .add .i64 (.ar .add .i64 (.ar .add .i64 (.int 0) N6) N0) N7) dv) (fn 6 (pr (fn 132 (pr N3 (pr N4 (pr (.int 4) N5)))) (fn 133 (pr N3 (pr N4 (pr N5 (.int 0)))))))
abbrev ayI:E:=cmp .lss (fn 0 (fn 1 (pr N3 (.int 20)))) N6
abbrev Te:E:=.not ayI
abbrev Tf:E:=cmp .eql N6 (fn 121 (pr (fn 1 (pr N3 (.int 20))) N5))
abbrev ayJ:E:=cmp .lss (fn 0 (fn 1 (pr N3 (.int 21)))) N0
abbrev Th:E:=.not ayJ
abbrev Ti:E:=cmp .eql N0 (fn 121 (pr (fn 1 (pr N3 (.int 21))) N5))
abbrev ayK:E:=cmp .lss (fn 0 (fn 1 (pr N3 (.int 22)))) N7
abbrev Tj:E:=.not ayK
abbrev Tk:E:=cmp .eql N7 (fn 121 (pr (fn 1 (pr N3 (.int 22))) N5))
abbrev ayL:E:=cmp .lss (fn 0 (fn 1 (pr N3 (.int 23)))) dv
abbrev Tl:E:=.not ayL
abbrev Tn:E:=cmp .eql dv (fn 121 (pr (fn 1 (pr N3 (.int 23))) N5))
abbrev To:E:=cmp .lss N4 (.int 0)
abbrev AM:E:=.not To
abbrev ayM:E:=cmp .lss (.ar .add .i64 (.ar .add .i64 (.ar .add .i64 (.ar .add .i64 (.int 0) N6) N0) N7) dv) (.int 0)
abbrev Tp:E:=.not ayM
abbrev ayN:=Tl::mI::Tn::fM
abbrev ayO:=Tk::ayN
abbrev ayP:=jV::ayO
abbrev ayQ:=Tj::ayP
abbrev ayR:=Ti::ayQ
abbrev ayS:=AY::ayR
abbrev ayT:=Th::ayS
abbrev ayU:=Tf::ayT
abbrev ayV:=oG::ayU
abbrev Ts:=Te::ayV
abbrev ayW:E:=cmp .lss (.int 160) (.ar .add .i64 (.ar .add .i64 (.ar .add .i64 (.ar .add .i64 (.int 0) N6) N0) N7) dv)
abbrev Tt:E:=.not ayW
abbrev bA:E:=var 16
abbrev gm:E:=cmp .lss bA (fn 9 (pr (fn 1 (pr N3 (.int 29))) (.int 5)))
abbrev ayX:E:=cmp .lss bA (.int 0)
abbrev Tu:E:=.not ayX
abbrev If:=[Tu]
abbrev ayY:=gm::If
abbrev AN:=lk::ayY
abbrev AO:E:=.not gm
abbrev eg:E:=var 17
abbrev Ih:E:=cmp .eql eg (fn 6 (pr (fn 132 (pr N3 (pr N4 (pr (.int 4) N5)))) (fn 133 (pr N3 (pr N4 (pr N5 bA))))))
abbrev ayZ:E:=cmp .lss (fn 9 (pr (fn 1 (pr N3 (.int 29))) (.int 5))) bA
abbrev Ii:E:=.not ayZ
abbrev ay0:E:=cmp .lss (fn 6 (pr (.int 160) bA)) eg
abbrev Ij:E:=.not ay0
abbrev Tv:E:=cmp .eql (fn 1 (pr (fn 1 (pr N3 (.int 29))) (fn 6 (pr (fn 8 (pr bA (.int 5))) (.int 3))))) (.int (-1))
abbrev Tw:E:=cmp .eql (fn 1 (pr (fn 1 (pr N3 (.int 29))) (fn 6 (pr (fn 8 (pr bA (.int 5))) (.int 1))))) N5
abbrev Tx:E:=cmp .eql (fn 1 (pr (fn 1 (pr N3 (.int 29))) (fn 6 (pr (fn 8 (pr bA (.int 5))) (.int 0))))) N4
abbrev ay1:E:=cmp .lss eg (.int 0)
abbrev Ty:E:=.not ay1
abbrev wM:=Ih::Tu::fM
abbrev ay2:=Ty::wM
abbrev Tz:=Ij::ay2
abbrev Ik:E:=cmp .eql eg (fn 6 (pr (fn 132 (pr N3 (pr N4 (pr (.int 4) N5)))) (fn 133 (pr N3 (pr N4 (pr N5 (.ar .add .i64 bA (.int 1))))))))
abbrev TA:=gm::Tz
abbrev ay3:E:=cmp .lss (.ar .add .i64 eg (.int 1)) (.int 0)
abbrev TB:E:=.not ay3
abbrev ik:E:=.not (cmp .lss N3 (.int 1))
abbrev im:E:=.not (cmp .lss N4 (.int (-1)))
abbrev TC:E:=cmp .lss (.int 1) N5
abbrev f6:E:=var 7
abbrev ay4:E:=pr f6 aK
abbrev ay5:E:=pr dv ay4
abbrev ay6:E:=pr N7 ay5
abbrev ay7:E:=pr N0 ay6
abbrev ay8:E:=pr N6 ay7
abbrev ay9:E:=pr N5 ay8
abbrev aza:E:=pr N4 ay9
abbrev azb:E:=pr N3 aza
abbrev TD:E:=fn 137 azb
abbrev jn:E:=.iff N2 TD
abbrev jU:E:=.not TC
abbrev lh:E:=cmp .eql N6 (.int 0)
abbrev mJ:E:=cmp .eql N0 (.int 0)
abbrev azc:E:=cmp .lss (.int 500) N3
abbrev Im:E:=.not azc
abbrev Io:E:=cmp .lss (.int 399) N4
abbrev TE:=[Im,(.not Io)]
abbrev TF:E:=cmp .lss f6 (.int 0)
abbrev AP:E:=.not TF
abbrev TG:E:=cmp .lss (.int 99) N7
abbrev TH:E:=cmp .lss (.int 99) dv
abbrev TI:E:=cmp .lss (.int 99) f6
abbrev azd:List E:=[(.not TH),(.not TI)]
abbrev TJ:List E:=(.not TG)::azd
abbrev aze:E:=cmp .lss (.int 99) aK
abbrev azf:E:=.not aze
abbrev TL:E:=.iff azf TD
abbrev sM:E:=cmp .lss (fn 1 (pr (fn 1 (pr N3 (.int 29))) (fn 6 (pr (fn 8 (pr bA (.int 5))) (.int 3))))) (.int 0)
abbrev sN:E:=var 18
abbrev Ip:E:=cmp .eql sN (fn 120 (pr N3 (pr (fn 1 (pr (fn 1 (pr N3 (.int 29))) (fn 6 (pr (fn 8 (pr bA (.int 5))) (.int 1))))) (fn 9 (pr (fn 1 (pr N3 (.int 0))) (.int 12))))))
abbrev TM:E:=cmp .eql (fn 1 (pr (fn 1 (pr N3 (.int 0))) (fn 6 (pr (fn 8 (pr sN (.int 12))) (.int 1))))) (fn 1 (pr (fn 1 (pr N3 (.int 29))) (fn 6 (pr (fn 8 (pr bA (.int 5))) (.int 2)))))
abbrev TN:E:=fn 123 (pr N3 bA)
abbrev Iq:=TN::If
abbrev sO:E:=.iff N2 (fn 125 N3)
abbrev TO:E:=cmp .lss sN (.int 0)
abbrev TP:E:=cmp .eql eg (fn 6 (pr (fn 134 (pr N3 (.int 8))) (fn 135 (pr N3 bA))))
abbrev TQ:=[Ii]
abbrev TR:E:=fn 123 (pr N3 (fn 9 (pr (fn 1 (pr N3 (.int 29))) (.int 5))))
abbrev Is:=TP::If
abbrev azg:E:=cmp .lss (fn 6 (pr (.int 320) bA)) eg
abbrev TS:E:=.not azg
abbrev azh:=Ty::Is
abbrev azi:=TS::azh
abbrev TT:=lk::azi
abbrev TU:=gm::TT
abbrev bb:E:=var 24
abbrev mK:E:=cmp .lss bb (fn 9 (pr (fn 1 (pr N3 (.int 0))) (.int 12)))
abbrev wO:E:=cmp .lss (.int 0) bb
abbrev AQ:=[mK,wO]
abbrev It:=lk::AQ
abbrev mL:E:=var 26
abbrev oH:E:=.iff mL (fn 137 (pr (fn 1 (pr (fn 1 (pr N3 (.int 0))) (fn 6 (pr (fn 8 (pr bb (.int 12))) (.int 0))))) (pr (fn 1 (pr (fn 1 (pr N3 (.int 0))) (fn 6 (pr (fn 8 (pr bb (.int 12))) (.int 1))))) (pr (fn 1 (pr (fn 1 (pr N3 (.int 0))) (fn 6 (pr (fn 8 (pr bb (.int 12))) (.int 2))))) (pr (fn 1 (pr (fn 1 (pr N3 (.int 0))) (fn 6 (pr (fn 8 (pr bb (.int 12))) (.int 3))))) (pr (fn 1 (pr (fn 1 (pr N3 (.int 0))) (fn 6 (pr (fn 8 (pr bb (.int 12))) (.int 4))))) (pr (fn 1 (pr (fn 1 (pr N3 (.int 0))) (fn 6 (pr (fn 8 (pr bb (.int 12))) (.int 5))))) (pr (fn 1 (pr (fn 1 (pr N3 (.int 0))) (fn 6 (pr (fn 8 (pr bb (.int 12))) (.int 6))))) (pr (fn 1 (pr (fn 1 (pr N3 (.int 0))) (fn 6 (pr (fn 8 (pr bb (.int 12))) (.int 7))))) (fn 1 (pr (fn 1 (pr N3 (.int 0))) (fn 6 (pr (fn 8 (pr bb (.int 12))) (.int 8))))))))))))))
abbrev Iu:E:=fn 124 (pr N3 bb)
abbrev TV:=lk::Iq
abbrev TW:E:=fn 123 (pr N3 (.ar .add .i64 bA (.int 1)))
abbrev Iv:E:=.not wO
abbrev AR:E:=cmp .eql (var 27) (fn 122 (pr N3 (pr (fn 1 (pr (fn 1 (pr N3 (.int 0))) (fn 6 (pr (fn 8 (pr bb (.int 12))) (.int 2))))) (fn 1 (pr (fn 1 (pr N3 (.int 0))) (fn 6 (pr (fn 8 (pr bb (.int 12))) (.int 0))))))))
abbrev AS:E:=cmp .eql (var 27) (.int 1)
abbrev azj:E:=cmp .lss bb (.int 0)
abbrev TY:E:=.not azj
abbrev TZ:=[TY]
abbrev Ua:=Iu::TZ
abbrev Iw:=Iv::TZ
abbrev azk:E:=cmp .lss (.ar .add .i64 bb (.int 1)) (.int 0)
abbrev Ub:E:=.not azk
abbrev Ix:E:=cmp .lss (fn 1 (pr (fn 1 (pr N3 (.int 0))) (fn 6 (pr (fn 8 (pr (.ar .sub .i64 bb (.int 1)) (.int 12))) (.int 0))))) (fn 1 (pr (fn 1 (pr N3 (.int 0))) (fn 6 (pr (fn 8 (pr bb (.int 12))) (.int 0)))))
abbrev azl:=TY::fM
abbrev AT:=Iu::azl
abbrev Ud:=mK::Iw
abbrev azm:E:=cmp .lss (fn 9 (pr (fn 1 (pr N3 (.int 0))) (.int 12))) (.ar .add .i64 bb (.int 1))
abbrev Ue:E:=.not azm
abbrev azn:E:=pr N3 (.ar .add .i64 bb (.int 1))
abbrev Uf:E:=fn 124 azn
abbrev Ug:E:=cmp .lss (fn 7 (pr (fn 9 (pr (fn 1 (pr N3 (.int 0))) (.int 12))) (.ar .add .i64 bb (.int 1)))) (fn 7 (pr (fn 9 (pr (fn 1 (pr N3 (.int 0))) (.int 12))) bb))
abbrev azo:E:=cmp .lss (fn 7 (pr (fn 9 (pr (fn 1 (pr N3 (.int 0))) (.int 12))) (.ar .add .i64 bb (.int 1)))) (.int 0)
abbrev Ui:E:=.not azo
def alR:=fb [N1] gO<|ah fun F p0=>by
 have:=(@dz F N6 N4 N3 N7 N5 N0)
 simp only[aa]at *;grind
def alS:=fb [(.not Tq)] wN<|ah fun F p0=>by
 have:=pw F (pr N0 (.int 2))
 simp only[aa]at *;grind
def alT:=fb (oG::Tq::Il::(.not In)::Uj) gO<|eT fun F p0 p1 p2 p3 p4 p5 p6 p7 p8 p9=>by
 have:=(@dz F N6 N4 N3 N7 N5 N0)
 simp only[aa]at *;grind
def alU:=fb [Ig,N7] gO<|am fun F p0 p1=>by
 have:=(@dz F N6 N4 N3 N7 N5 N0)
 simp only[aa]at *;grind
def alV:=fb [Ig,(.not Iy)] wN<|am fun F p0 p1=>by
 simp_all
def alW:=fb [In] gO<|ah fun F p0=>by
 have:=(@dz F N6 N4 N3 N7 N5 N0)
 simp only[aa]at *;grind
def alX:=fb [Iy] gO<|ah fun F p0=>by
 have:=(@dz F N6 N4 N3 N7 N5 N0)
 simp only[aa]at *;grind
def alY:=fb [TK] gO<|ah fun F p0=>by
 have:=(@dz F N6 N4 N3 N7 N5 N0)
 simp only[aa]at *;grind
def alZ:=fb [Ir] gO<|ah fun F p0=>by
 have:=(@dz F N6 N4 N3 N7 N5 N0)
 simp only[aa]at *;grind
def al0:=fb [TX] gO<|ah fun F p0=>by
 have:=(@dz F N6 N4 N3 N7 N5 N0)
 simp only[aa]at *;grind
def al1:=fb [Uc] gO<|ah fun F p0=>by
 have:=(@dz F N6 N4 N3 N7 N5 N0)
 simp only[aa]at *;grind
def al2:=fb [Uh] gO<|ah fun F p0=>by
 have:=(@dz F N6 N4 N3 N7 N5 N0)
 simp only[aa]at *;grind
def al3:=fb [oG] sP<|ah fun F p0=>by
 simp_all
def al4:=fb [(.not N7)] sP<|ah fun F p0=>by
 simp_all
def al5:=fa ((fn 101 (pr N0 (.int 0))))<|fun F=>by
 rfl
def al6:=fb (jo::sQ::AU::(.not AV)::Um::(.not Un)::(.not Iz)::qg::sP::Up) gO<|tW fun F p0 p1 p2 p3 p4 p5 p6 p7 p8 p9 ak ao ap az aC aD aR aZ=>by
 have:=(@dz F N6 N4 N3 N7 N5 N0)
 have:=fun h0 h1=>@mh F _ _ (fn 9 (pr N0 (.int 2))) h0 h1 (fn 1 _) (fn 1 (pr N0 (fn 6 (pr (fn 8 (pr aK _)) _)))) rfl rfl
 simp only[aa]at *;grind
def al7:=fb [wN] wN<|ah fun F p0=>by
 omega
def al8:=fb (jo::sQ::AU::AV::lj) gO<|aJ fun F p0 p1 p2 p3 p4=>by
 have:=(@dz F N6 N4 N3 N7 N5 N0)
 have:=fun h0 h1=>@mh F _ _ (fn 9 (pr N0 (.int 2))) h0 h1 _ (fn 1 (pr N0 (fn 6 (pr (fn 8 (pr aK _)) _)))) rfl rfl
 simp only[aa]at *;grind
def al9:=fb (jo::sQ::Ul::lj) gO<|aw fun F p0 p1 p2 p3=>by
 have:=(@dz F N6 N4 N3 N7 N5 N0)
 have:=fun h0 h1=>@mh F _ _ (fn 9 (pr N0 (.int 2))) h0 h1 _ (fn 1 (pr N0 (fn 6 (pr (fn 8 (pr aK _)) _)))) rfl rfl
 simp only[aa]at *;grind
def ama:=fb (jo::sQ::Iz::lj) gO<|aw fun F p0 p1 p2 p3=>by
 have:=(@dz F N6 N4 N3 N7 N5 N0)
 have:=fun h0 h1=>@mh F _ _ (fn 9 (pr N0 (.int 2))) h0 h1 (fn 1 _) (fn 1 (pr N0 (fn 6 (pr (fn 8 (pr aK _)) _)))) rfl rfl
 simp only[aa]at *;grind
def amb:=fb (jo::Uk::lj) gO<|aj fun F p0 p1 p2=>by
 have:=(@dz F N6 N4 N3 N7 N5 N0)
 have:=fun h0 h1=>@mh F _ _ (fn 9 (pr N0 (.int 2))) h0 h1 (fn 1 _) (fn 1 (pr N0 (fn 6 (pr (fn 8 (pr aK _)) _)))) rfl rfl
 simp only[aa]at *;grind
def amc:=fb ((.not jo)::Uq::sP::wN::Up) (.iff (.bool true) Tg)<|gx fun F p0 p1 p2 p3 p4 p5 p6 p7 p8 p9 ak ao ap=>by
 have:=(@dz F N6 N4 N3 N7 N5 N0)
 have:=fun h1=>@agL F _ _ (fn 9 (pr N0 (.int 2))) p1 h1
 simp only[aa]at *;grind
def amd:=fb [sP] sP<|ah fun F p0=>by
 omega
def ame:=fb (jo::IA) IB<|aj fun F p0 p1 p2=>by
 simp only[aa,ae]at *
 obtain⟨a,b,c⟩:=ab (E.I F aK+1)
 omega
def amf:=fb (jo::lj) (.not (cmp .lss (fn 9 (pr N0 (.int 2))) (.ar .add .i64 aK (.int 1))))<|am fun F p0 p1=>by
 simp only[aa,ae]at *
 obtain⟨a,b,c⟩:=ab (E.I F aK+1)
 omega
def amg:=fb (jo::sQ::AU::(.not AV)::Un::Ur) Us<|dP fun F p0 p1 p2 p3 p4 p5 p6 p7 p8=>by
 have:=@bJ F aK (.int 1)
 have:=fun h0 hm=>@Gg F _ (.ar .add .i64 aK (.int 1)) _ p6 h0 hm (fn 1 _) (fn 1 _) rfl rfl
 simp only[aa]at *;grind
def amh:=fb (jo::sQ::AU::(.not AV)::(.not Um)::Ur) Us<|dP fun F p0 p1 p2 p3 p4 p5 p6 p7 p8=>by
 have:=@bJ F aK (.int 1)
 have:=fun h0 hm=>@Gg F _ (.ar .add .i64 aK (.int 1)) _ p6 h0 hm (fn 1 _) (fn 1 _) rfl rfl
 simp only[aa]at *;grind
def ami:=fb (jo::IA) (cmp .lss (fn 7 (pr (fn 9 (pr N0 (.int 2))) (.ar .add .i64 aK (.int 1)))) (fn 7 (pr (fn 9 (pr N0 (.int 2))) aK)))<|aj fun F p0 p1 p2=>by
 simp only[aa,ae]at *
 obtain⟨a,b,c⟩:=ab (E.I F aK+1)
 omega
def amj:=fb (jo::lj) (.not (cmp .lss (fn 7 (pr (fn 9 (pr N0 (.int 2))) (.ar .add .i64 aK (.int 1)))) (.int 0)))<|am fun F p0 p1=>by
 simp only[aa,ae]at *
 obtain⟨a,b,c⟩:=ab (E.I F aK+1)
 omega
def bO:List Fa:=[alR,alS,alT,alU,alV,alW,alX,alY,alZ,al0,al1,al2,PL,al3,al4,al5,al6,al7,al8,al9,ama,amb,amc,amd,ame,amf,amg,amh,ami,amj]
theorem aKP:aL Tryz.prog (bh (aKj)):=sc bO (aFa) adJ ([]) (by kernel_rfl) (by kernel_rfl)
def adK:Nl:=nc aKP adJ
def amk:=fb Uu IB<|aj fun F p0 p1 p2=>by
 simp only[aa,ae]at *
 obtain⟨a,b,c⟩:=ab (E.I F aK+1)
 omega
def aml:=fb [(.not mM),IC] (cmp .eql iO (fn 121 (pr N3 N4)))<|am fun F p0 p1=>by
 have:=@aMp F N3 N4 aK
 simp only[aa]at *;grind
def PT:=fb (mM::lj) (.not (cmp .lss (fn 0 N3) (.ar .add .i64 aK (.int 1))))<|am fun F p0 p1=>by
 simp only[aa,ae]at *
 obtain⟨a,b,c⟩:=ab (E.I F aK+1)
 omega
def amm:=fb [(.not mM),ID,IC,(.not (cmp .lss (fn 0 N3) aK))] (.not (cmp .lss (fn 0 N3) iO))<|aw fun F p0 p1 p2 p3=>by
 simp only[aa]at *;omega
def amn:=fb (mM::Uv::IE) (cmp .eql (.ar .add .i64 iO (.int 1)) (fn 131 (pr N3 (pr N4 (.ar .add .i64 aK (.int 1))))))<|cH fun F p0 p1 p2 p3 p4 p5 p6=>by
 have:=@bJ F aK (.int 1)
 have:=@NV F N3 N4 aK (.ar .add .i64 aK (.int 1))
 simp only[aa,ae]at *
 obtain⟨a,b,c⟩:=ab (E.I F iO+1)
 omega
def amo:=fb (mM::(.not Uv)::IE) (cmp .eql iO (fn 131 (pr N3 (pr N4 (.ar .add .i64 aK (.int 1))))))<|cH fun F p0 p1 p2 p3 p4 p5 p6=>by
 have:=@bJ F aK (.int 1)
 have:=@NV F N3 N4 aK (.ar .add .i64 aK (.int 1))
 simp only[aa]at *;grind
def amp:=fb Ux (.not (cmp .lss (.ar .add .i64 iO (.int 1)) (.int 0)))<|bL fun F p0 p1 p2 p3 p4 p5=>by
 simp only[aa,ae]at *
 obtain⟨a,b,c⟩:=ab (E.I F iO+1)
 omega
def amq:=fb (mM::ID::Uw) (.not (cmp .lss (.ar .add .i64 aK (.int 1)) iO))<|aJ fun F p0 p1 p2 p3 p4=>by
 simp only[aa,ae]at *
 obtain⟨a,b,c⟩:=ab (E.I F aK+1)
 omega
def amr:=fb Ux (.not (cmp .lss (.ar .add .i64 aK (.int 1)) (.ar .add .i64 iO (.int 1))))<|bL fun F p0 p1 p2 p3 p4 p5=>by
 simp only[aa,ae]at *
 obtain⟨a,b,c⟩:=ab (E.I F aK+1)
 obtain⟨d,f,g⟩:=ab (E.I F iO+1)
 omega
def ams:=fb Uu (cmp .lss (fn 7 (pr (fn 0 N3) (.ar .add .i64 aK (.int 1)))) (fn 7 (pr (fn 0 N3) aK)))<|aj fun F p0 p1 p2=>by
 simp only[aa,ae]at *
 obtain⟨a,b,c⟩:=ab (E.I F aK+1)
 omega
def PU:=fb (mM::lj) (.not (cmp .lss (fn 7 (pr (fn 0 N3) (.ar .add .i64 aK (.int 1)))) (.int 0)))<|am fun F p0 p1=>by
 simp only[aa,ae]at *
 obtain⟨a,b,c⟩:=ab (E.I F aK+1)
 omega
def bZ:List Fa:=[P5,amk,aml,PT,amm,amn,amo,amp,amq,amr,ams,PU]
theorem aKQ:aL Tryz.prog (bh (aJ4)):=sc bZ (aE0) adK ([]) (by kernel_rfl) (by kernel_rfl)
def adL:Nl:=nc aKQ adK
def amt:=fa ((cmp .eql (fn 120 (pr N3 (pr N4 (.int 0)))) (.int (-1))))<|fun F=>by
 rfl
def amu:=fb (AW::Uy::IF::lj) (cmp .eql aK (fn 120 (pr N3 (pr N4 (fn 9 (pr (fn 1 (pr N3 (.int 0))) (.int 12)))))))<|aw fun F p0 p1 p2 p3=>by
 have:=fun h=>@agO F N4 _ (fn 6 (pr aK (.int 1))) _ (fn 9 (pr (fn 1 (pr N3 (.int 0))) (.int 12))) h (fn 1 (pr (fn 1 (pr N3 _)) (fn 6 (pr (fn 8 (pr aK _)) _)))) rfl
 simp only[aa]at *;grind
def amv:=fb (lk::AX) IB<|aj fun F p0 p1 p2=>by
 have:=ai p0
 simp only[aa,ae]at *
 obtain⟨a,b,c⟩:=ab (E.I F aK+1)
 omega
def amw:=fb [(.not AW),IF,(.not (cmp .lss (fn 9 (pr (fn 1 (pr N3 (.int 0))) (.int 12))) aK))] (cmp .eql (fn 120 (pr N3 (pr N4 (fn 9 (pr (fn 1 (pr N3 (.int 0))) (.int 12)))))) (.int (-1)))<|aj fun F p0 p1 p2=>by
 have:=@aMo F N4 aK (fn 9 (pr (fn 1 (pr N3 (.int 0))) (.int 12))) N3
 simp only[aa]at *;grind
def amx:=fb AX (.not (cmp .lss (fn 9 (pr (fn 1 (pr N3 (.int 0))) (.int 12))) (.ar .add .i64 aK (.int 1))))<|am fun F p0 p1=>by
 simp only[aa,ae]at *
 obtain⟨a,b,c⟩:=ab (E.I F aK+1)
 omega
def amy:=fb (AW::(.not Uy)::IF::qg::fM) (cmp .eql (fn 120 (pr N3 (pr N4 (.ar .add .i64 aK (.int 1))))) (.int (-1)))<|aJ fun F p0 p1 p2 p3 p4=>by
 have:=ai p4
 have:=@bJ F aK (.int 1)
 have:=fun h=>@agO F N4 _ (.ar .add .i64 aK (.int 1)) _ (fn 9 (pr (fn 1 (pr N3 (.int 0))) (.int 12))) h (fn 1 (pr (fn 1 (pr N3 _)) (fn 6 (pr (fn 8 (pr aK _)) _)))) rfl
 simp only[aa]at *;grind
def amz:=fb (lk::AX) (cmp .lss (fn 7 (pr (fn 9 (pr (fn 1 (pr N3 (.int 0))) (.int 12))) (.ar .add .i64 aK (.int 1)))) (fn 7 (pr (fn 9 (pr (fn 1 (pr N3 (.int 0))) (.int 12))) aK)))<|aj fun F p0 p1 p2=>by
 have:=ai p0
 simp only[aa,ae]at *
 obtain⟨a,b,c⟩:=ab (E.I F aK+1)
 omega
def amA:=fb AX (.not (cmp .lss (fn 7 (pr (fn 9 (pr (fn 1 (pr N3 (.int 0))) (.int 12))) (.ar .add .i64 aK (.int 1)))) (.int 0)))<|am fun F p0 p1=>by
 simp only[aa,ae]at *
 obtain⟨a,b,c⟩:=ab (E.I F aK+1)
 omega
def ch:List Fa:=[Ae,amt,amu,amv,amw,amx,amy,amz,amA]
theorem aKR:aL Tryz.prog (bh (aKh)):=sc ch (aE8) adL ([]) (by kernel_rfl) (by kernel_rfl)
def adM:Nl:=nc aKR adL
def amB:=fb fM (.not (cmp .lss (.int 1000) (fn 0 (fn 1 (pr N3 (.int 6))))))<|ah fun F p0=>by
 have:=ai p0
 simp only[aa]at *;omega
def amC:=fb fM (.not (cmp .lss (.int 1000) (fn 0 (fn 1 (pr N3 (.int 20))))))<|ah fun F p0=>by
 have:=ai p0
 simp only[aa]at *;omega
def amD:=fb fM (.not (cmp .lss (.int 1000) (fn 0 (fn 1 (pr N3 (.int 7))))))<|ah fun F p0=>by
 have:=ai p0
 simp only[aa]at *;omega
def amE:=fb fM (.not (cmp .lss (.int 1000) (fn 0 (fn 1 (pr N3 (.int 21))))))<|ah fun F p0=>by
 have:=ai p0
 simp only[aa]at *;omega
def PV:=fb fM (.not (cmp .lss (.int 1000) (fn 0 (fn 1 (pr N3 (.int 8))))))<|ah fun F p0=>by
 have:=ai p0
 simp only[aa]at *;omega
def PW:=fb fM (.not (cmp .lss (.int 1000) (fn 0 (fn 1 (pr N3 (.int 22))))))<|ah fun F p0=>by
 have:=ai p0
 simp only[aa]at *;omega
def amF:=fb fM (.not (cmp .lss (.int 1000) (fn 0 (fn 1 (pr N3 (.int 9))))))<|ah fun F p0=>by
 have:=ai p0
 simp only[aa]at *;omega
def amG:=fb fM (.not (cmp .lss (.int 1000) (fn 0 (fn 1 (pr N3 (.int 23))))))<|ah fun F p0=>by
 have:=ai p0
 simp only[aa]at *;omega
def amH:=fb (Uz::Ie) Td<|lP fun F p0 p1 p2 p3 p4 p5 p6 p7 p8 p9 ak ao ap az=>by
 have:=ai az
 have:=@aMv F N5 N4 N3
 have:=@agR F N5 N4 N3 (.int 0)
 simp only[aa,ae]at *
 obtain⟨a,b,c⟩:=ab ((0)+(E.I F N6))
 simp only[b]at *
 obtain⟨d,f,g⟩:=ab (a+(E.I F N0))
 simp only[f]at *
 obtain⟨i,j,k⟩:=ab (d+(E.I F N7))
 simp only[j]at *
 obtain⟨l,m,n⟩:=ab (i+(E.I F dv))
 omega
def amI:=fb ((.not Uz)::Te::oG::Tf::Th::AY::Ti::Tj::jV::Tk::Tl::mI::Tn::(.not (cmp .lss (.int 1) N4))::AM::fM) Td<|jF fun F p0 p1 p2 p3 p4 p5 p6 p7 p8 p9 ak ao ap az aC aD=>by
 have:=ai aD
 have:=@aMw F N5 N4 N3
 have:=@agR F N5 N4 N3 (.int 0)
 simp only[aa,ae]at *
 obtain⟨a,b,c⟩:=ab ((0)+(E.I F N6))
 simp only[b]at *
 obtain⟨d,f,g⟩:=ab (a+(E.I F N0))
 simp only[f]at *
 obtain⟨i,j,k⟩:=ab (d+(E.I F N7))
 simp only[j]at *
 obtain⟨l,m,n⟩:=ab (i+(E.I F dv))
 omega
def amJ:=fb Ie Tp<|gx fun F p0 p1 p2 p3 p4 p5 p6 p7 p8 p9 ak ao ap=>by
 have:=ai ap
 simp only[aa,ae]at *
 obtain⟨a,b,c⟩:=ab ((0)+(E.I F N6))
 simp only[b]at *
 obtain⟨d,f,g⟩:=ab (a+(E.I F N0))
 simp only[f]at *
 obtain⟨i,j,k⟩:=ab (d+(E.I F N7))
 simp only[j]at *
 obtain⟨l,m,n⟩:=ab (i+(E.I F dv))
 omega
def amK:=fb Ts Tp<|gx fun F p0 p1 p2 p3 p4 p5 p6 p7 p8 p9 ak ao ap=>by
 have:=ai ap
 simp only[aa,ae]at *
 obtain⟨a,b,c⟩:=ab ((0)+(E.I F N6))
 simp only[b]at *
 obtain⟨d,f,g⟩:=ab (a+(E.I F N0))
 simp only[f]at *
 obtain⟨i,j,k⟩:=ab (d+(E.I F N7))
 simp only[j]at *
 obtain⟨l,m,n⟩:=ab (i+(E.I F dv))
 omega
def amL:=fb Ie Tt<|gx fun F p0 p1 p2 p3 p4 p5 p6 p7 p8 p9 ak ao ap=>by
 have:=ai ap
 simp only[aa,ae]at *
 obtain⟨a,b,c⟩:=ab ((0)+(E.I F N6))
 simp only[b]at *
 obtain⟨d,f,g⟩:=ab (a+(E.I F N0))
 simp only[f]at *
 obtain⟨i,j,k⟩:=ab (d+(E.I F N7))
 simp only[j]at *
 obtain⟨l,m,n⟩:=ab (i+(E.I F dv))
 omega
def amM:=fb Ts Tt<|gx fun F p0 p1 p2 p3 p4 p5 p6 p7 p8 p9 ak ao ap=>by
 have:=ai ap
 simp only[aa,ae]at *
 obtain⟨a,b,c⟩:=ab ((0)+(E.I F N6))
 simp only[b]at *
 obtain⟨d,f,g⟩:=ab (a+(E.I F N0))
 simp only[f]at *
 obtain⟨i,j,k⟩:=ab (d+(E.I F N7))
 simp only[j]at *
 obtain⟨l,m,n⟩:=ab (i+(E.I F dv))
 omega
def PY:=fb AN (.not (cmp .lss (.ar .add .i64 bA (.int 1)) (.int 0)))<|aj fun F p0 p1 p2=>by
 have:=ai p0
 simp only[aa,ae]at *
 obtain⟨a,b,c⟩:=ab (E.I F bA+1)
 omega
def amN:=fb [AO,Ih,Ii,AM] (cmp .eql eg (fn 122 (pr N3 (pr N4 N5))))<|aw fun F p0 p1 p2 p3=>by
 have:=@aMq F N5 N4 N3 bA
 simp only[aa]at *;grind
def PZ:=fb AN (.not (cmp .lss (fn 9 (pr (fn 1 (pr N3 (.int 29))) (.int 5))) (.ar .add .i64 bA (.int 1))))<|aj fun F p0 p1 p2=>by
 simp only[aa,ae]at *
 obtain⟨a,b,c⟩:=ab (E.I F bA+1)
 omega
def amO:=fb (AO::Ij::Ih::Ii::fM) (.not (cmp .lss (.int 1000) eg))<|aJ fun F p0 p1 p2 p3 p4=>by
 have:=ai p4
 simp only[aa]at *;omega
def amP:=fb (gm::Tv::Tw::Tx::Tz) (cmp .eql (.ar .add .i64 eg (.int 1)) (fn 6 (pr (fn 132 (pr N3 (pr N4 (pr (.int 4) N5)))) (fn 133 (pr N3 (pr N4 (pr N5 (.ar .add .i64 bA (.int 1)))))))))<|dP fun F p0 p1 p2 p3 p4 p5 p6 p7 p8=>by
 have:=ai p8
 have:=@bJ F bA (.int 1)
 have:=@Gn F N5 N4 (.ar .add .i64 bA (.int 1)) _ _ _ _ (fn 1 (pr (fn 1 (pr N3 _)) (fn 6 (pr (fn 8 (pr bA _)) _)))) rfl rfl rfl
 simp only[aa,ae]at *
 obtain⟨a,b,c⟩:=ab (E.I F eg+1)
 omega
def amQ:=fb (gm::(.not Tx)::wM) Ik<|aJ fun F p0 p1 p2 p3 p4=>by
 have:=ai p4
 have:=@bJ F bA (.int 1)
 have:=@Gn F N5 N4 (.ar .add .i64 bA (.int 1)) _ _ _ _ (fn 1 (pr (fn 1 (pr N3 _)) (fn 6 (pr (fn 8 (pr bA _)) _)))) rfl rfl rfl
 simp only[aa]at *;grind
def amR:=fb (gm::(.not Tw)::wM) Ik<|aJ fun F p0 p1 p2 p3 p4=>by
 have:=ai p4
 have:=@bJ F bA (.int 1)
 have:=@Gn F N5 N4 (.ar .add .i64 bA (.int 1)) _ _ _ _ (fn 1 (pr (fn 1 (pr N3 _)) (fn 6 (pr (fn 8 (pr bA _)) _)))) rfl rfl rfl
 simp only[aa]at *;grind
def amS:=fb (gm::(.not Tv)::wM) Ik<|aJ fun F p0 p1 p2 p3 p4=>by
 have:=ai p4
 have:=@bJ F bA (.int 1)
 have:=@Gn F N5 N4 (.ar .add .i64 bA (.int 1)) _ _ _ _ (fn 1 (pr (fn 1 (pr N3 _)) (fn 6 (pr (fn 8 (pr bA _)) _)))) rfl rfl rfl
 simp only[aa]at *;grind
def amT:=fb TA TB<|bL fun F p0 p1 p2 p3 p4 p5=>by
 have:=ai p5
 simp only[aa,ae]at *
 obtain⟨a,b,c⟩:=ab (E.I F eg+1)
 omega
def amU:=fb (gm::Ij::wM) (.not (cmp .lss (fn 6 (pr (.int 160) (.ar .add .i64 bA (.int 1)))) eg))<|aJ fun F p0 p1 p2 p3 p4=>by
 have:=ai p4
 simp only[aa,ae]at *
 obtain⟨a,b,c⟩:=ab (E.I F bA+1)
 omega
def amV:=fb TA (.not (cmp .lss (fn 6 (pr (.int 160) (.ar .add .i64 bA (.int 1)))) (.ar .add .i64 eg (.int 1))))<|bL fun F p0 p1 p2 p3 p4 p5=>by
 have:=ai p5
 simp only[aa,ae]at *
 obtain⟨a,b,c⟩:=ab (E.I F bA+1)
 obtain⟨d,f,g⟩:=ab (E.I F eg+1)
 omega
def P0:=fb AN (cmp .lss (fn 7 (pr (fn 9 (pr (fn 1 (pr N3 (.int 29))) (.int 5))) (.ar .add .i64 bA (.int 1)))) (fn 7 (pr (fn 9 (pr (fn 1 (pr N3 (.int 29))) (.int 5))) bA)))<|aj fun F p0 p1 p2=>by
 have:=ai p0
 simp only[aa,ae]at *
 obtain⟨a,b,c⟩:=ab (E.I F bA+1)
 omega
def P1:=fb AN (.not (cmp .lss (fn 7 (pr (fn 9 (pr (fn 1 (pr N3 (.int 29))) (.int 5))) (.ar .add .i64 bA (.int 1)))) (.int 0)))<|aj fun F p0 p1 p2=>by
 simp only[aa,ae]at *
 obtain⟨a,b,c⟩:=ab (E.I F bA+1)
 omega
def cp:List Fa:=[amB,amC,amD,amE,PV,PW,amF,amG,mw,amH,amI,amJ,amK,amL,amM,PY,amN,PZ,amO,amP,amQ,amR,amS,amT,amU,amV,P0,P1]
theorem aKS:aL Tryz.prog (bh (aKq)):=sc cp (aFe) adM ([]) (by kernel_rfl) (by kernel_rfl)
def adN:Nl:=nc aKS adM
def amW:=fb [ik,im,iN,TC] jn<|aw fun F p0 p1 p2 p3=>by
 have:=@cz F N3 N4 N5 N6 N0 N7 dv f6 aK
 simp only[aa]at *;grind
def amX:=fb (ik::im::iN::jU::AM::lh::(.not mJ)::TE) jn<|dP fun F p0 p1 p2 p3 p4 p5 p6 p7 p8=>by
 have:=@cz F N3 N4 N5 N6 N0 N7 dv f6 aK
 simp only[aa]at *;grind
def amY:=fb [ik,im,iN,jU,lh,mJ,UA] jn<|cH fun F p0 p1 p2 p3 p4 p5 p6=>by
 have:=@cz F N3 N4 N5 N6 N0 N7 dv f6 aK
 simp only[aa]at *;grind
def amZ:=fb [ik,im,iN,jU,lh,mJ,jV,Tc] jn<|cR fun F p0 p1 p2 p3 p4 p5 p6 p7=>by
 have:=@cz F N3 N4 N5 N6 N0 N7 dv f6 aK
 simp only[aa]at *;grind
def am0:=fb [ik,im,iN,jU,lh,mJ,jV,mI,TF] jn<|dP fun F p0 p1 p2 p3 p4 p5 p6 p7 p8=>by
 have:=@cz F N3 N4 N5 N6 N0 N7 dv f6 aK
 simp only[aa]at *;grind
def am1:=fb [ik,im,iN,jU,lh,mJ,jV,mI,AP,Uo] jn<|eT fun F p0 p1 p2 p3 p4 p5 p6 p7 p8 p9=>by
 have:=@cz F N3 N4 N5 N6 N0 N7 dv f6 aK
 simp only[aa]at *;grind
def am2:=fb (ik::im::iN::jU::lh::mJ::jV::mI::AP::qg::Im::(.not Io)::TJ) TL<|yp fun F p0 p1 p2 p3 p4 p5 p6 p7 p8 p9 ak ao ap az aC=>by
 have:=@cz F N3 N4 N5 N6 N0 N7 dv f6 aK
 simp only[aa]at *;grind
def am3:=fb [ik,im,iN,jU,lh,mJ,jV,mI,AP,TI] jn<|eT fun F p0 p1 p2 p3 p4 p5 p6 p7 p8 p9=>by
 have:=@cz F N3 N4 N5 N6 N0 N7 dv f6 aK
 simp only[aa]at *;grind
def am4:=fb [ik,im,iN,jU,lh,mJ,jV,mI,TH] jn<|dP fun F p0 p1 p2 p3 p4 p5 p6 p7 p8=>by
 have:=@cz F N3 N4 N5 N6 N0 N7 dv f6 aK
 simp only[aa]at *;grind
def am5:=fb [ik,im,iN,jU,lh,mJ,jV,TG] jn<|cR fun F p0 p1 p2 p3 p4 p5 p6 p7=>by
 have:=@cz F N3 N4 N5 N6 N0 N7 dv f6 aK
 simp only[aa]at *;grind
def am6:=fb (ik::im::iN::jU::AM::(.not lh)::TE) jn<|cR fun F p0 p1 p2 p3 p4 p5 p6 p7=>by
 have:=@cz F N3 N4 N5 N6 N0 N7 dv f6 aK
 simp only[aa]at *;grind
def am7:=fb (ik::im::iN::jU::To::oG::AY::jV::mI::AP::qg::Im::(.not (cmp .lss (.int 99) N6))::(.not (cmp .lss (.int 99) N0))::TJ) TL<|yq fun F p0 p1 p2 p3 p4 p5 p6 p7 p8 p9 ak ao ap az aC aD aR=>by
 have:=@cz F N3 N4 N5 N6 N0 N7 dv f6 aK
 simp only[aa]at *;grind
def am8:=fb [ik,im,Ir] jn<|aj fun F p0 p1 p2=>by
 have:=@cz F N3 N4 N5 N6 N0 N7 dv f6 aK
 simp only[aa]at *;grind
def am9:=fb [ik,im,Io] jn<|aj fun F p0 p1 p2=>by
 have:=@cz F N3 N4 N5 N6 N0 N7 dv f6 aK
 simp only[aa]at *;grind
def cN:List Fa:=[amW,amX,amY,amZ,am0,am1,am2,am3,am4,am5,am6,Q3,Q2,Q1,Q0,QS,QI,am7,QC,QB,Qv,Qr,Ql,am8,am9,QD,QF,QG]
theorem aKT:aL Tryz.prog (bh (agy 84)):=sc cN ([]) adN ([]) (by kernel_rfl) (by kernel_rfl)
def adO:Nl:=nc aKT adN
def ana:=fb fM (cmp .eql (.ar .add .i64 (.ar .add .i64 (.ar .add .i64 (.ar .add .i64 (.ar .add .i64 (.ar .add .i64 (.ar .add .i64 (.ar .add .i64 (.int 0) (fn 0 (fn 1 (pr N3 (.int 6))))) (fn 0 (fn 1 (pr N3 (.int 7))))) (fn 0 (fn 1 (pr N3 (.int 8))))) (fn 0 (fn 1 (pr N3 (.int 9))))) (fn 0 (fn 1 (pr N3 (.int 20))))) (fn 0 (fn 1 (pr N3 (.int 21))))) (fn 0 (fn 1 (pr N3 (.int 22))))) (fn 0 (fn 1 (pr N3 (.int 23))))) (fn 6 (pr (fn 134 (pr N3 (.int 8))) (fn 135 (pr N3 (.int 0))))))<|ah fun F p0=>by
 have:=ai p0
 have:=@aMx F N3
 have:=@aMz F N3 (.int 0)
 simp only[aa,ae]at *
 have:=@bz F (fn 1 (pr N3 (.int 6)))
 have:=@bz F (fn 1 (pr N3 (.int 7)))
 have:=@bz F (fn 1 (pr N3 (.int 8)))
 have:=@bz F (fn 1 (pr N3 (.int 9)))
 have:=@bz F (fn 1 (pr N3 (.int 20)))
 have:=@bz F (fn 1 (pr N3 (.int 21)))
 have:=@bz F (fn 1 (pr N3 (.int 22)))
 have:=@bz F (fn 1 (pr N3 (.int 23)))
 obtain⟨a,b,c⟩:=ab ((0)+(E.I F (fn 0 (fn 1 (pr N3 (.int 6))))))
 obtain⟨d,f,g⟩:=ab (a+(E.I F (fn 0 (fn 1 (pr N3 (.int 7))))))
 obtain⟨i,j,k⟩:=ab (d+(E.I F (fn 0 (fn 1 (pr N3 (.int 8))))))
 obtain⟨l,m,n⟩:=ab (i+(E.I F (fn 0 (fn 1 (pr N3 (.int 9))))))
 obtain⟨o,r,s⟩:=ab (l+(E.I F (fn 0 (fn 1 (pr N3 (.int 20))))))
 obtain⟨t,u,v⟩:=ab (o+(E.I F (fn 0 (fn 1 (pr N3 (.int 21))))))
 obtain⟨w,x,y⟩:=ab (t+(E.I F (fn 0 (fn 1 (pr N3 (.int 22))))))
 obtain⟨z,ea17,qa17⟩:=ab (w+(E.I F (fn 0 (fn 1 (pr N3 (.int 23))))))
 grind
def anb:=fb fM (.not (cmp .lss (.ar .add .i64 (.ar .add .i64 (.ar .add .i64 (.ar .add .i64 (.ar .add .i64 (.ar .add .i64 (.ar .add .i64 (.ar .add .i64 (.int 0) (fn 0 (fn 1 (pr N3 (.int 6))))) (fn 0 (fn 1 (pr N3 (.int 7))))) (fn 0 (fn 1 (pr N3 (.int 8))))) (fn 0 (fn 1 (pr N3 (.int 9))))) (fn 0 (fn 1 (pr N3 (.int 20))))) (fn 0 (fn 1 (pr N3 (.int 21))))) (fn 0 (fn 1 (pr N3 (.int 22))))) (fn 0 (fn 1 (pr N3 (.int 23))))) (.int 0)))<|ah fun F p0=>by
 have:=ai p0
 simp only[aa,ae]at *
 have:=@bz F (fn 1 (pr N3 (.int 6)))
 have:=@bz F (fn 1 (pr N3 (.int 7)))
 have:=@bz F (fn 1 (pr N3 (.int 8)))
 have:=@bz F (fn 1 (pr N3 (.int 9)))
 have:=@bz F (fn 1 (pr N3 (.int 20)))
 have:=@bz F (fn 1 (pr N3 (.int 21)))
 have:=@bz F (fn 1 (pr N3 (.int 22)))
 have:=@bz F (fn 1 (pr N3 (.int 23)))
 obtain⟨a,b,c⟩:=ab ((0)+(E.I F (fn 0 (fn 1 (pr N3 (.int 6))))))
 obtain⟨d,f,g⟩:=ab (a+(E.I F (fn 0 (fn 1 (pr N3 (.int 7))))))
 obtain⟨i,j,k⟩:=ab (d+(E.I F (fn 0 (fn 1 (pr N3 (.int 8))))))
 obtain⟨l,m,n⟩:=ab (i+(E.I F (fn 0 (fn 1 (pr N3 (.int 9))))))
 obtain⟨o,r,s⟩:=ab (l+(E.I F (fn 0 (fn 1 (pr N3 (.int 20))))))
 obtain⟨t,u,v⟩:=ab (o+(E.I F (fn 0 (fn 1 (pr N3 (.int 21))))))
 obtain⟨w,x,y⟩:=ab (t+(E.I F (fn 0 (fn 1 (pr N3 (.int 22))))))
 obtain⟨z,ea15,qa15⟩:=ab (w+(E.I F (fn 0 (fn 1 (pr N3 (.int 23))))))
 grind
def anc:=fb fM (.not (cmp .lss (.int 320) (.ar .add .i64 (.ar .add .i64 (.ar .add .i64 (.ar .add .i64 (.ar .add .i64 (.ar .add .i64 (.ar .add .i64 (.ar .add .i64 (.int 0) (fn 0 (fn 1 (pr N3 (.int 6))))) (fn 0 (fn 1 (pr N3 (.int 7))))) (fn 0 (fn 1 (pr N3 (.int 8))))) (fn 0 (fn 1 (pr N3 (.int 9))))) (fn 0 (fn 1 (pr N3 (.int 20))))) (fn 0 (fn 1 (pr N3 (.int 21))))) (fn 0 (fn 1 (pr N3 (.int 22))))) (fn 0 (fn 1 (pr N3 (.int 23)))))))<|ah fun F p0=>by
 have:=ai p0
 simp only[aa,ae]at *
 have:=@bz F (fn 1 (pr N3 (.int 6)))
 have:=@bz F (fn 1 (pr N3 (.int 7)))
 have:=@bz F (fn 1 (pr N3 (.int 8)))
 have:=@bz F (fn 1 (pr N3 (.int 9)))
 have:=@bz F (fn 1 (pr N3 (.int 20)))
 have:=@bz F (fn 1 (pr N3 (.int 21)))
 have:=@bz F (fn 1 (pr N3 (.int 22)))
 have:=@bz F (fn 1 (pr N3 (.int 23)))
 obtain⟨a,b,c⟩:=ab ((0)+(E.I F (fn 0 (fn 1 (pr N3 (.int 6))))))
 obtain⟨d,f,g⟩:=ab (a+(E.I F (fn 0 (fn 1 (pr N3 (.int 7))))))
 obtain⟨i,j,k⟩:=ab (d+(E.I F (fn 0 (fn 1 (pr N3 (.int 8))))))
 obtain⟨l,m,n⟩:=ab (i+(E.I F (fn 0 (fn 1 (pr N3 (.int 9))))))
 obtain⟨o,r,s⟩:=ab (l+(E.I F (fn 0 (fn 1 (pr N3 (.int 20))))))
 obtain⟨t,u,v⟩:=ab (o+(E.I F (fn 0 (fn 1 (pr N3 (.int 21))))))
 obtain⟨w,x,y⟩:=ab (t+(E.I F (fn 0 (fn 1 (pr N3 (.int 22))))))
 obtain⟨z,ea15,qa15⟩:=ab (w+(E.I F (fn 0 (fn 1 (pr N3 (.int 23))))))
 grind
def ane:=fa ((fn 123 (pr N3 (.int 0))))<|fun F=>by
 rfl
def anf:=fb (gm::sM::Ip::(.not TM)::Iq) sO<|bL fun F p0 p1 p2 p3 p4 p5=>by
 have:=@Gz F (fn 6 (pr bA (.int 1))) _ _ p4 _ _ _ _ (fn 1 (pr _ (fn 6 (pr (fn 8 (pr sN _)) _)))) rfl rfl rfl rfl
 simp only[aa]at *;grind
def ang:=fb (gm::sM::Ip::TO::Iq) sO<|bL fun F p0 p1 p2 p3 p4 p5=>by
 have:=@Gz F (fn 6 (pr bA (.int 1))) _ _ p4 _ _ _ _ (fn 1 (pr _ (fn 6 (pr (fn 8 (pr sN _)) _)))) rfl rfl rfl rfl
 simp only[aa]at *;grind
def anh:=fb (AO::TP::TQ) (cmp .eql eg (fn 6 (pr (fn 134 (pr N3 (.int 8))) (fn 135 (pr N3 (fn 9 (pr (fn 1 (pr N3 (.int 29))) (.int 5))))))))<|aj fun F p0 p1 p2=>by
 have:=@aMy F (fn 9 (pr (fn 1 (pr N3 (.int 29))) (.int 5))) N3 bA
 simp only[aa]at *;grind
def ani:=fb (AO::lk::TN::TQ) TR<|aw fun F p0 p1 p2 p3=>by
 have g0:E.I F (fn 9 (pr (fn 1 (pr N3 (.int 29))) (.int 5)))=E.I F bA:=by
  simp only[aa]at *;omega
 grind[aMr]
def anj:=fb (gm::(.not sM)::lk::Is) (cmp .eql eg (fn 6 (pr (fn 134 (pr N3 (.int 8))) (fn 135 (pr N3 (.ar .add .i64 bA (.int 1)))))))<|aJ fun F p0 p1 p2 p3 p4=>by
 have:=ai p2
 have:=@bJ F bA (.int 1)
 have:=@agS F (.ar .add .i64 bA (.int 1)) _ _ (fn 1 (pr (fn 1 (pr N3 _)) (fn 6 (pr (fn 8 (pr bA _)) _)))) rfl
 simp only[aa]at *;grind
def ank:=fb (gm::sM::TT) (cmp .eql (.ar .add .i64 eg (.int 1)) (fn 6 (pr (fn 134 (pr N3 (.int 8))) (fn 135 (pr N3 (.ar .add .i64 bA (.int 1)))))))<|cH fun F p0 p1 p2 p3 p4 p5 p6=>by
 have:=ai p2
 have:=@bJ F bA (.int 1)
 have:=@agS F (.ar .add .i64 bA (.int 1)) _ _ (fn 1 (pr (fn 1 (pr N3 _)) (fn 6 (pr (fn 8 (pr bA _)) _)))) rfl
 simp only[aa,ae]at *
 obtain⟨a,b,c⟩:=ab (E.I F eg+1)
 omega
def anl:=fa ((fn 124 (pr N3 (.int 0))))<|fun F=>by
 rfl
def anm:=fb (gm::lk::TS::Is) (.not (cmp .lss (fn 6 (pr (.int 320) (.ar .add .i64 bA (.int 1)))) eg))<|aJ fun F p0 p1 p2 p3 p4=>by
 have:=ai p1
 simp only[aa,ae]at *
 obtain⟨a,b,c⟩:=ab (E.I F bA+1)
 omega
def ann:=fb TU TB<|bL fun F p0 p1 p2 p3 p4 p5=>by
 have:=ai p1
 simp only[aa,ae]at *
 obtain⟨a,b,c⟩:=ab (E.I F eg+1)
 omega
def ano:=fb It (.not (cmp .lss (.ar .sub .i64 bb (.int 1)) (.int 0)))<|aj fun F p0 p1 p2=>by
 have:=ai p0
 simp only[aa,ae]at *
 obtain⟨a,b,c⟩:=ab ((E.I F bb)-(1))
 omega
def anp:=fb [oH,mL] (.not (cmp .lss (fn 1 (pr (fn 1 (pr N3 (.int 0))) (fn 6 (pr (fn 8 (pr bb (.int 12))) (.int 2))))) (.int 0)))<|am fun F p0 p1=>by
 have:=@cz F (fn 1 (pr (fn 1 (pr N3 (.int 0))) (fn 6 (pr (fn 8 (pr bb (.int 12))) (.int 0))))) (fn 1 (pr (fn 1 (pr N3 (.int 0))) (fn 6 (pr (fn 8 (pr bb (.int 12))) (.int 1))))) (fn 1 (pr (fn 1 (pr N3 (.int 0))) (fn 6 (pr (fn 8 (pr bb (.int 12))) (.int 2))))) (fn 1 (pr (fn 1 (pr N3 (.int 0))) (fn 6 (pr (fn 8 (pr bb (.int 12))) (.int 3))))) (fn 1 (pr (fn 1 (pr N3 (.int 0))) (fn 6 (pr (fn 8 (pr bb (.int 12))) (.int 4))))) (fn 1 (pr (fn 1 (pr N3 (.int 0))) (fn 6 (pr (fn 8 (pr bb (.int 12))) (.int 5))))) (fn 1 (pr (fn 1 (pr N3 (.int 0))) (fn 6 (pr (fn 8 (pr bb (.int 12))) (.int 6))))) (fn 1 (pr (fn 1 (pr N3 (.int 0))) (fn 6 (pr (fn 8 (pr bb (.int 12))) (.int 7))))) (fn 1 (pr (fn 1 (pr N3 (.int 0))) (fn 6 (pr (fn 8 (pr bb (.int 12))) (.int 8)))))
 simp only[aa]at *;grind
def anq:=fb [(.not mK),Iu,TR,(cmp .eql (var 25) (fn 6 (pr (fn 134 (pr N3 (.int 8))) (fn 135 (pr N3 (fn 9 (pr (fn 1 (pr N3 (.int 29))) (.int 5)))))))),(.not (cmp .lss (fn 9 (pr (fn 1 (pr N3 (.int 0))) (.int 12))) bb))] (.iff (cmp .eql (var 25) (fn 9 (pr (fn 1 (pr N3 (.int 0))) (.int 12)))) (fn 125 N3))<|aJ fun F p0 p1 p2 p3 p4=>by
 have:=@aNc F _ _ (var 25) p2 p1
 simp only[aa]at *;grind
def anr:=fb (gm::(.not sM)::TV) TW<|aJ fun F p0 p1 p2 p3 p4=>by
 have:=ai p2
 have:=@bJ F bA (.int 1)
 have:=@Gz F (.ar .add .i64 bA (.int 1)) _ _ p3 _ _ _ _ (fn 1 (pr _ (fn 6 (pr (fn 8 (pr (.int 0) _)) _)))) rfl rfl rfl rfl
 simp only[aa]at *;grind
def ant:=fb TU (.not (cmp .lss (fn 6 (pr (.int 320) (.ar .add .i64 bA (.int 1)))) (.ar .add .i64 eg (.int 1))))<|bL fun F p0 p1 p2 p3 p4 p5=>by
 have:=ai p1
 simp only[aa,ae]at *
 obtain⟨a,b,c⟩:=ab (E.I F bA+1)
 obtain⟨d,f,g⟩:=ab (E.I F eg+1)
 omega
def anu:=fb AQ (cmp .lss (.ar .sub .i64 bb (.int 1)) (fn 9 (pr (fn 1 (pr N3 (.int 0))) (.int 12))))<|am fun F p0 p1=>by
 simp only[aa,ae]at *
 obtain⟨a,b,c⟩:=ab ((E.I F bb)-(1))
 omega
def anv:=fb [oH,mL] (.not (cmp .lss (.int 1) (fn 1 (pr (fn 1 (pr N3 (.int 0))) (fn 6 (pr (fn 8 (pr bb (.int 12))) (.int 2)))))))<|am fun F p0 p1=>by
 have:=@cz F (fn 1 (pr (fn 1 (pr N3 (.int 0))) (fn 6 (pr (fn 8 (pr bb (.int 12))) (.int 0))))) (fn 1 (pr (fn 1 (pr N3 (.int 0))) (fn 6 (pr (fn 8 (pr bb (.int 12))) (.int 1))))) (fn 1 (pr (fn 1 (pr N3 (.int 0))) (fn 6 (pr (fn 8 (pr bb (.int 12))) (.int 2))))) (fn 1 (pr (fn 1 (pr N3 (.int 0))) (fn 6 (pr (fn 8 (pr bb (.int 12))) (.int 3))))) (fn 1 (pr (fn 1 (pr N3 (.int 0))) (fn 6 (pr (fn 8 (pr bb (.int 12))) (.int 4))))) (fn 1 (pr (fn 1 (pr N3 (.int 0))) (fn 6 (pr (fn 8 (pr bb (.int 12))) (.int 5))))) (fn 1 (pr (fn 1 (pr N3 (.int 0))) (fn 6 (pr (fn 8 (pr bb (.int 12))) (.int 6))))) (fn 1 (pr (fn 1 (pr N3 (.int 0))) (fn 6 (pr (fn 8 (pr bb (.int 12))) (.int 7))))) (fn 1 (pr (fn 1 (pr N3 (.int 0))) (fn 6 (pr (fn 8 (pr bb (.int 12))) (.int 8)))))
 simp only[aa]at *;grind
def anw:=fb (gm::sM::Ip::(.not TO)::TM::TV) TW<|cR fun F p0 p1 p2 p3 p4 p5 p6 p7=>by
 have:=ai p5
 have:=@bJ F bA (.int 1)
 have:=@Gz F (.ar .add .i64 bA (.int 1)) _ _ p6 _ _ _ _ (fn 1 (pr _ (fn 6 (pr (fn 8 (pr sN _)) _)))) rfl rfl rfl rfl
 simp only[aa]at *;grind
def anx:=fb (mK::oH::mL::Iv::AR::(.not AS)::Ua) sO<|cR fun F p0 p1 p2 p3 p4 p5 p6 p7=>by
 have:=@vu F _ (fn 6 (pr bb (.int 1))) _ p6 (.ar .sub .i64 bb (.int 1)) _ _ _ _ _ _ _ _ _ rfl rfl rfl rfl rfl rfl rfl rfl rfl
 simp only[aa]at *;grind
def anz:=fb Iw Ub<|am fun F p0 p1=>by
 simp only[aa,ae]at *
 obtain⟨a,b,c⟩:=ab (E.I F bb+1)
 omega
def anA:=fb (mK::oH::mL::wO::Ix::AR::(.not AS)::AT) sO<|eT fun F p0 p1 p2 p3 p4 p5 p6 p7 p8 p9=>by
 have:=ai p9
 have:=@kW F bb (.int 1)
 have:=@vu F _ (fn 6 (pr bb (.int 1))) _ p7 (.ar .sub .i64 bb (.int 1)) _ _ _ _ _ _ _ _ _ rfl rfl rfl rfl rfl rfl rfl rfl rfl
 simp only[aa]at *;grind
def anB:=fb It Ub<|aj fun F p0 p1 p2=>by
 have:=ai p0
 simp only[aa,ae]at *
 obtain⟨a,b,c⟩:=ab (E.I F bb+1)
 omega
def anC:=fb (mK::oH::mL::wO::(.not Ix)::AT) sO<|cR fun F p0 p1 p2 p3 p4 p5 p6 p7=>by
 have:=ai p7
 have:=@kW F bb (.int 1)
 have:=@vu F _ (fn 6 (pr bb (.int 1))) _ p5 (.ar .sub .i64 bb (.int 1)) _ _ _ _ _ _ _ _ _ rfl rfl rfl rfl rfl rfl rfl rfl rfl
 simp only[aa]at *;grind
def anD:=fb (mK::oH::(.not mL)::AT) sO<|bL fun F p0 p1 p2 p3 p4 p5=>by
 have:=ai p5
 have:=@kW F bb (.int 1)
 have:=@vu F _ (fn 6 (pr bb (.int 1))) _ p3 (.ar .sub .i64 bb (.int 1)) _ _ _ _ _ _ _ _ _ rfl rfl rfl rfl rfl rfl rfl rfl rfl
 simp only[aa]at *;grind
def anE:=fb Ud Ue<|aj fun F p0 p1 p2=>by
 simp only[aa,ae]at *
 obtain⟨a,b,c⟩:=ab (E.I F bb+1)
 omega
def anF:=fb AQ Ue<|am fun F p0 p1=>by
 simp only[aa,ae]at *
 obtain⟨a,b,c⟩:=ab (E.I F bb+1)
 omega
def anG:=fb (mK::oH::mL::Iv::AR::AS::Ua) Uf<|cR fun F p0 p1 p2 p3 p4 p5 p6 p7=>by
 have:=@bJ F bb (.int 1)
 have:=@vu F _ (.ar .add .i64 bb (.int 1)) _ p6 (.ar .sub .i64 bb (.int 1)) _ _ _ _ _ _ _ _ _ rfl rfl rfl rfl rfl rfl rfl rfl rfl
 simp only[aa]at *;grind
def anH:=fb (mK::oH::mL::wO::Ix::AR::AS::AT) Uf<|eT fun F p0 p1 p2 p3 p4 p5 p6 p7 p8 p9=>by
 have:=ai p9
 have:=@kW F bb (.int 1)
 have:=@bJ F bb (.int 1)
 have:=@vu F _ (.ar .add .i64 bb (.int 1)) _ p7 (.ar .sub .i64 bb (.int 1)) _ _ _ _ _ _ _ _ _ rfl rfl rfl rfl rfl rfl rfl rfl rfl
 simp only[aa]at *;grind
def anI:=fb Iw Ug<|am fun F p0 p1=>by
 simp only[aa,ae]at *
 obtain⟨a,b,c⟩:=ab (E.I F bb+1)
 omega
def anJ:=fb It Ug<|aj fun F p0 p1 p2=>by
 have:=ai p0
 simp only[aa,ae]at *
 obtain⟨a,b,c⟩:=ab (E.I F bb+1)
 omega
def anK:=fb Ud Ui<|aj fun F p0 p1 p2=>by
 simp only[aa,ae]at *
 obtain⟨a,b,c⟩:=ab (E.I F bb+1)
 omega
def anL:=fb AQ Ui<|am fun F p0 p1=>by
 simp only[aa,ae]at *
 obtain⟨a,b,c⟩:=ab (E.I F bb+1)
 omega
def dd:List Fa:=[mw,Ae,ana,anb,anc,ane,PY,anf,ang,anh,PZ,ani,anj,ank,anl,anm,ann,ano,anp,anq,anr,ant,anu,anv,P0,anw,P1,anx,anz,anA,anB,anC,anD,anE,anF,anG,anH,anI,anJ,anK,anL]
theorem aKU:aL Tryz.prog (bh (aJ7)):=sc dd (aE1) adO ([]) (by kernel_rfl) (by kernel_rfl)
def adP:Nl:=nc aKU adO
end
end Go.Proofs.YtnggbcblogpnfaaGreat.combatBlocks
