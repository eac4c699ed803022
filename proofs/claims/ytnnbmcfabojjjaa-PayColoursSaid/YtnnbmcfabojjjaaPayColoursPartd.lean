/-
  PayColours: contracts of functions, part 4.
-/
import Derived.Test.YtnnbmcfabojjjaaRows
import Derived.Test.YtnnbmcfabojjjaaNat
import Derived.WalkKit
import Derived.ProofKit
import Derived.OpenShut
import Derived.ChangeOld
import Derived.Below
import Derived.KernelRfl
import Derived.Lib.SmallJoins
import Derived.Laws.IdiomArrays
import Derived.Test.YtnnbmcfabojjjaaPayColoursPartc
namespace Go.Proofs.Ytnnbmcfabojjjaa.payColours
open Go.ChangeShapes Go.WideShapes Go.ChangeAt Go.RowKit
open Go.SX
open Go.SX.E (fn pr cmp var)
set_option linter.unusedVariables false
set_option linter.unusedSimpArgs false
set_option maxRecDepth 100000
noncomputable section
abbrev Y0:E:=var 4
abbrev Y1:E:=cmp .lss (.int 4) (fn 9 (pr Y0 (.int 2)))
abbrev Y2:E:=.bool false
abbrev Y3:E:=var 0
abbrev Y4:E:=var 1
abbrev Y5:E:=var 2
abbrev Y6:E:=var 3
abbrev Y7:E:=var 5
abbrev Y8:E:=pr Y6 (pr Y0 Y7)
abbrev Y9:E:=pr Y5 Y8
abbrev Y10:E:=pr Y4 Y9
abbrev Y11:E:=pr Y3 Y10
abbrev QW:E:=fn 102 Y11
abbrev gQ:E:=.iff Y2 QW
abbrev Sc:E:=cmp .lss (.int 0) (fn 9 (pr Y0 (.int 2)))
abbrev FJ:E:=cmp .lss Y6 (.int 0)
abbrev oz:E:=.not FJ
abbrev xr:E:=.imp oz (cmp .eql (fn 9 (pr Y0 (.int 2))) (.int 0))
abbrev Ip:E:=.not Y1
abbrev JQ:E:=cmp .lss (.int 1) Y6
abbrev Y20:E:=cmp .lss (.int 399) Y5
abbrev FU:E:=cmp .lss Y5 (.int 0)
abbrev i9:E:=.not FU
abbrev Y23:E:=cmp .lss (.int 500) Y4
abbrev VV:E:=cmp .lss Y4 (.int 1)
abbrev NV:E:=cmp .lss (.int 1) Y3
abbrev Y26:E:=cmp .lss Y3 (.int 0)
abbrev Y27:E:=.not Y26
abbrev Y28:=[Y27]
abbrev Y29:List E:=(.not NV)::Y28
abbrev Y30:List E:=(.not VV)::Y29
abbrev Y31:List E:=(.not Y23)::Y30
abbrev Y32:=i9::Y31
abbrev Pz:List E:=(.not Y20)::Y32
abbrev LD:E:=cmp .lss Y6 (.int (-1))
abbrev tl:E:=.imp Y7 oz
abbrev aJ:E:=var 8
abbrev jM:E:=cmp .lss aJ (fn 9 (pr Y0 (.int 2)))
abbrev Yf:E:=cmp .lss (fn 1 (pr Y0 (fn 6 (pr (fn 8 (pr aJ (.int 2))) (.int 0))))) (.int 0)
abbrev sb:E:=.not Yf
abbrev O7:E:=cmp .lss (fn 1 (pr Y0 (fn 6 (pr (fn 8 (pr aJ (.int 2))) (.int 1))))) (.int 0)
abbrev B0:E:=.not O7
abbrev Bn:E:=cmp .lss (.int 1) (fn 1 (pr Y0 (fn 6 (pr (fn 8 (pr aJ (.int 2))) (.int 1)))))
abbrev Xz:E:=cmp .lss (.int 0) (fn 1 (pr Y0 (fn 6 (pr (fn 8 (pr aJ (.int 2))) (.int 0)))))
abbrev Y44:E:=cmp .eql (fn 1 (pr Y0 (fn 6 (pr (fn 8 (pr aJ (.int 2))) (.int 1))))) (.int 0)
abbrev Ib:E:=cmp .lss (.int 500) (fn 1 (pr Y0 (fn 6 (pr (fn 8 (pr aJ (.int 2))) (.int 0)))))
abbrev Y46:E:=cmp .lss aJ (.int 0)
abbrev rk:E:=.not Y46
abbrev Y48:List E:=(.not LD)::Pz
abbrev Y49:List E:=(.not JQ)::Y48
abbrev VN:=Ip::Y49
abbrev lq:=[rk]
abbrev Y52:E:=pr Y0 aJ
abbrev Y53:E:=fn 101 Y52
abbrev Y54:=[Ip]
abbrev Mu:=rk::Y54
abbrev Y56:E:=cmp .lss (.ar .add .i64 aJ (.int 1)) (.int 0)
abbrev I0:E:=.not Y56
abbrev Y58:=Y53::Mu
abbrev OH:List E:=(.not Ib)::Y58
abbrev Y60:E:=pr Y0 (.ar .add .i64 aJ (.int 1))
abbrev Sr:E:=fn 101 Y60
abbrev mf:E:=cmp .lss aJ (fn 0 Y3)
abbrev Y63:E:=cmp .lss (.int 1000) (fn 0 Y3)
abbrev Y64:E:=.not Y63
abbrev Y65:=[Y64]
abbrev TS:=rk::Y65
abbrev So:=mf::TS
abbrev jl:E:=var 9
abbrev Gg:E:=cmp .eql jl (fn 131 (pr Y3 (pr Y4 aJ)))
abbrev Y70:E:=cmp .lss aJ jl
abbrev LW:E:=.not Y70
abbrev Ur:E:=cmp .eql (fn 1 (pr Y3 aJ)) Y4
abbrev Y73:E:=cmp .lss jl (.int 0)
abbrev Y74:E:=.not Y73
abbrev Sk:=Gg::TS
abbrev Y76:=Y74::Sk
abbrev Ks:=LW::Y76
abbrev Yn:=mf::Ks
abbrev DG:E:=cmp .lss aJ (fn 9 (pr (fn 1 (pr Y3 (.int 0))) (.int 12)))
abbrev Y80:E:=cmp .eql (fn 1 (pr (fn 1 (pr Y3 (.int 0))) (fn 6 (pr (fn 8 (pr aJ (.int 12))) (.int 0))))) Y4
abbrev Gz:E:=cmp .eql (fn 120 (pr Y3 (pr Y4 aJ))) (.int (-1))
abbrev l9:E:=fn 117 Y3
abbrev Bb:=DG::lq
abbrev fR:=[l9]
abbrev Y85:E:=cmp .eql Y4 (.int 0)
abbrev Y86:E:=cmp .lss (fn 0 (fn 1 (pr Y3 (.int 6)))) Y6
abbrev Y87:E:=.not Y86
abbrev Y88:E:=cmp .eql Y6 (fn 121 (pr (fn 1 (pr Y3 (.int 6))) Y5))
abbrev Y89:E:=cmp .lss (fn 0 (fn 1 (pr Y3 (.int 7)))) Y0
abbrev Y90:E:=.not Y89
abbrev CB:E:=.not (cmp .lss Y0 (.int 0))
abbrev Y92:E:=cmp .eql Y0 (fn 121 (pr (fn 1 (pr Y3 (.int 7))) Y5))
abbrev Y93:E:=cmp .lss (fn 0 (fn 1 (pr Y3 (.int 8)))) Y7
abbrev Y94:E:=.not Y93
abbrev Y95:E:=cmp .lss Y7 (.int 0)
abbrev kD:E:=.not Y95
abbrev Y97:E:=cmp .eql Y7 (fn 121 (pr (fn 1 (pr Y3 (.int 8))) Y5))
abbrev dh:E:=var 6
abbrev Y99:E:=cmp .lss (fn 0 (fn 1 (pr Y3 (.int 9)))) dh
abbrev afb:E:=.not Y99
abbrev aef:E:=cmp .lss dh (.int 0)
abbrev mO:E:=.not aef
abbrev aCt:E:=cmp .eql dh (fn 121 (pr (fn 1 (pr Y3 (.int 9))) Y5))
abbrev avr:=aCt::fR
abbrev at2:=mO::avr
abbrev auV:=afb::at2
abbrev ahH:=Y97::auV
abbrev ale:=kD::ahH
abbrev avm:=Y94::ale
abbrev agn:=Y92::avm
abbrev af5:=CB::agn
abbrev agY:=Y90::af5
abbrev aEH:=Y88::agY
abbrev aEV:=oz::aEH
abbrev Hw:=Y87::aEV
abbrev TQ:E:=cmp .eql (.ar .add .i64 (.ar .add .i64 (.ar .add .i64 (.ar .add .i64 (.int 0) Y6) Y0) Y7) dh) (fn 6 (pr (fn 132 (pr Y3 (pr Y4 (pr (.int 4) Y5)))) (fn 133 (pr Y3 (pr Y4 (pr Y5 (.int 0)))))))
abbrev aAV:E:=cmp .lss (fn 0 (fn 1 (pr Y3 (.int 20)))) Y6
abbrev aam:E:=.not aAV
abbrev Pa:E:=cmp .eql Y6 (fn 121 (pr (fn 1 (pr Y3 (.int 20))) Y5))
abbrev aDe:E:=cmp .lss (fn 0 (fn 1 (pr Y3 (.int 21)))) Y0
abbrev Q7:E:=.not aDe
abbrev Rh:E:=cmp .eql Y0 (fn 121 (pr (fn 1 (pr Y3 (.int 21))) Y5))
abbrev afM:E:=cmp .lss (fn 0 (fn 1 (pr Y3 (.int 22)))) Y7
abbrev Rx:E:=.not afM
abbrev aca:E:=cmp .eql Y7 (fn 121 (pr (fn 1 (pr Y3 (.int 22))) Y5))
abbrev aBX:E:=cmp .lss (fn 0 (fn 1 (pr Y3 (.int 23)))) dh
abbrev NY:E:=.not aBX
abbrev Tn:E:=cmp .eql dh (fn 121 (pr (fn 1 (pr Y3 (.int 23))) Y5))
abbrev Zb:E:=cmp .lss Y4 (.int 0)
abbrev Dd:E:=.not Zb
abbrev amr:E:=cmp .lss (.ar .add .i64 (.ar .add .i64 (.ar .add .i64 (.ar .add .i64 (.int 0) Y6) Y0) Y7) dh) (.int 0)
abbrev NG:E:=.not amr
abbrev azi:=NY::mO::Tn::fR
abbrev arU:=aca::azi
abbrev age:=kD::arU
abbrev aiR:=Rx::age
abbrev ais:=Rh::aiR
abbrev awX:=CB::ais
abbrev aFh:=Q7::awX
abbrev alC:=Pa::aFh
abbrev aok:=oz::alC
abbrev S5:=aam::aok
abbrev aqv:E:=cmp .lss (.int 160) (.ar .add .i64 (.ar .add .i64 (.ar .add .i64 (.ar .add .i64 (.int 0) Y6) Y0) Y7) dh)
abbrev RF:E:=.not aqv
abbrev bl:E:=var 16
abbrev gp:E:=cmp .lss bl (fn 9 (pr (fn 1 (pr Y3 (.int 29))) (.int 5)))
abbrev ahP:E:=cmp .lss bl (.int 0)
abbrev abJ:E:=.not ahP
abbrev IY:=[abJ]
abbrev alr:=gp::IY
abbrev A9:=l9::alr
abbrev Cg:E:=.not gp
abbrev ey:E:=var 17
abbrev JD:E:=cmp .eql ey (fn 6 (pr (fn 132 (pr Y3 (pr Y4 (pr (.int 4) Y5)))) (fn 133 (pr Y3 (pr Y4 (pr Y5 bl))))))
abbrev aGt:E:=cmp .lss (fn 9 (pr (fn 1 (pr Y3 (.int 29))) (.int 5))) bl
abbrev Mn:E:=.not aGt
abbrev atF:E:=cmp .lss (fn 6 (pr (.int 160) bl)) ey
abbrev JL:E:=.not atF
abbrev Zw:E:=cmp .eql (fn 1 (pr (fn 1 (pr Y3 (.int 29))) (fn 6 (pr (fn 8 (pr bl (.int 5))) (.int 3))))) (.int (-1))
abbrev acN:E:=cmp .eql (fn 1 (pr (fn 1 (pr Y3 (.int 29))) (fn 6 (pr (fn 8 (pr bl (.int 5))) (.int 1))))) Y5
abbrev Tx:E:=cmp .eql (fn 1 (pr (fn 1 (pr Y3 (.int 29))) (fn 6 (pr (fn 8 (pr bl (.int 5))) (.int 0))))) Y4
abbrev aj3:E:=cmp .lss ey (.int 0)
abbrev adu:E:=.not aj3
abbrev zm:=JD::abJ::fR
abbrev aDE:=adu::zm
abbrev aa4:=JL::aDE
abbrev Lc:E:=cmp .eql ey (fn 6 (pr (fn 132 (pr Y3 (pr Y4 (pr (.int 4) Y5)))) (fn 133 (pr Y3 (pr Y4 (pr Y5 (.ar .add .i64 bl (.int 1))))))))
abbrev Q9:=gp::aa4
abbrev ahn:E:=cmp .lss (.ar .add .i64 ey (.int 1)) (.int 0)
abbrev aee:E:=.not ahn
abbrev ij:E:=.not (cmp .lss Y3 (.int 1))
abbrev ie:E:=.not (cmp .lss Y4 (.int (-1)))
abbrev QK:E:=cmp .lss (.int 1) Y5
abbrev gj:E:=var 7
abbrev ajh:E:=pr gj aJ
abbrev aG0:E:=pr dh ajh
abbrev aAW:E:=pr Y7 aG0
abbrev aro:E:=pr Y0 aAW
abbrev avI:E:=pr Y6 aro
abbrev aj7:E:=pr Y5 avI
abbrev ar5:E:=pr Y4 aj7
abbrev asx:E:=pr Y3 ar5
abbrev Xu:E:=fn 137 asx
abbrev j0:E:=.iff Y2 Xu
abbrev kp:E:=.not QK
abbrev l7:E:=cmp .eql Y6 (.int 0)
abbrev mq:E:=cmp .eql Y0 (.int 0)
abbrev azy:E:=cmp .lss (.int 500) Y3
abbrev Hu:E:=.not azy
abbrev Im:E:=cmp .lss (.int 399) Y4
abbrev Uo:=[Hu,(.not Im)]
abbrev Xh:E:=cmp .lss gj (.int 0)
abbrev Av:E:=.not Xh
abbrev aaS:E:=cmp .lss (.int 99) Y7
abbrev Wk:E:=cmp .lss (.int 99) dh
abbrev XP:E:=cmp .lss (.int 99) gj
abbrev arF:List E:=[(.not Wk),(.not XP)]
abbrev Oc:List E:=(.not aaS)::arF
abbrev aCU:E:=cmp .lss (.int 99) aJ
abbrev auq:E:=.not aCU
abbrev aeR:E:=.iff auq Xu
abbrev sw:E:=cmp .lss (fn 1 (pr (fn 1 (pr Y3 (.int 29))) (fn 6 (pr (fn 8 (pr bl (.int 5))) (.int 3))))) (.int 0)
abbrev t7:E:=var 18
abbrev Lx:E:=cmp .eql t7 (fn 120 (pr Y3 (pr (fn 1 (pr (fn 1 (pr Y3 (.int 29))) (fn 6 (pr (fn 8 (pr bl (.int 5))) (.int 1))))) (fn 9 (pr (fn 1 (pr Y3 (.int 0))) (.int 12))))))
abbrev aaI:E:=cmp .eql (fn 1 (pr (fn 1 (pr Y3 (.int 0))) (fn 6 (pr (fn 8 (pr t7 (.int 12))) (.int 1))))) (fn 1 (pr (fn 1 (pr Y3 (.int 29))) (fn 6 (pr (fn 8 (pr bl (.int 5))) (.int 2)))))
abbrev aaQ:E:=fn 123 (pr Y3 bl)
abbrev Ja:=aaQ::IY
abbrev sQ:E:=.iff Y2 (fn 125 Y3)
abbrev RU:E:=cmp .lss t7 (.int 0)
abbrev abZ:E:=cmp .eql ey (fn 6 (pr (fn 134 (pr Y3 (.int 8))) (fn 135 (pr Y3 bl))))
abbrev Ye:=[Mn]
abbrev aem:E:=fn 123 (pr Y3 (fn 9 (pr (fn 1 (pr Y3 (.int 29))) (.int 5))))
abbrev JY:=abZ::IY
abbrev ao4:E:=cmp .lss (fn 6 (pr (.int 320) bl)) ey
abbrev O9:E:=.not ao4
abbrev aqO:=adu::JY
abbrev ae4:=O9::aqO
abbrev abM:=l9::ae4
abbrev Ss:=gp::abM
abbrev aY:E:=var 24
abbrev nV:E:=cmp .lss aY (fn 9 (pr (fn 1 (pr Y3 (.int 0))) (.int 12)))
abbrev wi:E:=cmp .lss (.int 0) aY
abbrev DL:=[nV,wi]
abbrev GO:=l9::DL
abbrev mT:E:=var 26
abbrev oN:E:=.iff mT (fn 137 (pr (fn 1 (pr (fn 1 (pr Y3 (.int 0))) (fn 6 (pr (fn 8 (pr aY (.int 12))) (.int 0))))) (pr (fn 1 (pr (fn 1 (pr Y3 (.int 0))) (fn 6 (pr (fn 8 (pr aY (.int 12))) (.int 1))))) (pr (fn 1 (pr (fn 1 (pr Y3 (.int 0))) (fn 6 (pr (fn 8 (pr aY (.int 12))) (.int 2))))) (pr (fn 1 (pr (fn 1 (pr Y3 (.int 0))) (fn 6 (pr (fn 8 (pr aY (.int 12))) (.int 3))))) (pr (fn 1 (pr (fn 1 (pr Y3 (.int 0))) (fn 6 (pr (fn 8 (pr aY (.int 12))) (.int 4))))) (pr (fn 1 (pr (fn 1 (pr Y3 (.int 0))) (fn 6 (pr (fn 8 (pr aY (.int 12))) (.int 5))))) (pr (fn 1 (pr (fn 1 (pr Y3 (.int 0))) (fn 6 (pr (fn 8 (pr aY (.int 12))) (.int 6))))) (pr (fn 1 (pr (fn 1 (pr Y3 (.int 0))) (fn 6 (pr (fn 8 (pr aY (.int 12))) (.int 7))))) (fn 1 (pr (fn 1 (pr Y3 (.int 0))) (fn 6 (pr (fn 8 (pr aY (.int 12))) (.int 8))))))))))))))
abbrev IA:E:=fn 124 (pr Y3 aY)
abbrev O1:=l9::Ja
abbrev S1:E:=fn 123 (pr Y3 (.ar .add .i64 bl (.int 1)))
abbrev JB:E:=.not wi
abbrev C0:E:=cmp .eql (var 27) (fn 122 (pr Y3 (pr (fn 1 (pr (fn 1 (pr Y3 (.int 0))) (fn 6 (pr (fn 8 (pr aY (.int 12))) (.int 2))))) (fn 1 (pr (fn 1 (pr Y3 (.int 0))) (fn 6 (pr (fn 8 (pr aY (.int 12))) (.int 0))))))))
abbrev Fm:E:=cmp .eql (var 27) (.int 1)
abbrev alD:E:=cmp .lss aY (.int 0)
abbrev adm:E:=.not alD
abbrev NP:=[adm]
abbrev abC:=IA::NP
abbrev Hd:=JB::NP
abbrev axW:E:=cmp .lss (.ar .add .i64 aY (.int 1)) (.int 0)
abbrev Up:E:=.not axW
abbrev HL:E:=cmp .lss (fn 1 (pr (fn 1 (pr Y3 (.int 0))) (fn 6 (pr (fn 8 (pr (.ar .sub .i64 aY (.int 1)) (.int 12))) (.int 0))))) (fn 1 (pr (fn 1 (pr Y3 (.int 0))) (fn 6 (pr (fn 8 (pr aY (.int 12))) (.int 0)))))
abbrev aFl:=adm::fR
abbrev C2:=IA::aFl
abbrev OF:=nV::Hd
abbrev aiz:E:=cmp .lss (fn 9 (pr (fn 1 (pr Y3 (.int 0))) (.int 12))) (.ar .add .i64 aY (.int 1))
abbrev abo:E:=.not aiz
abbrev aod:E:=pr Y3 (.ar .add .i64 aY (.int 1))
abbrev Tj:E:=fn 124 aod
abbrev TP:E:=cmp .lss (fn 7 (pr (fn 9 (pr (fn 1 (pr Y3 (.int 0))) (.int 12))) (.ar .add .i64 aY (.int 1)))) (fn 7 (pr (fn 9 (pr (fn 1 (pr Y3 (.int 0))) (.int 12))) aY))
abbrev az4:E:=cmp .lss (fn 7 (pr (fn 9 (pr (fn 1 (pr Y3 (.int 0))) (.int 12))) (.ar .add .i64 aY (.int 1)))) (.int 0)
abbrev acM:E:=.not az4
def aGU:=fb ([Y1]) gQ<|az fun F p0=>by
 have:=(@dg F Y6 Y4 Y3 Y7 Y5 Y0)
 try simp only[ab]at *
 grind
def atT:=fb ([(.not Sc)]) xr<|az fun F p0=>by
 have:=wn F (pr Y0 (.int 2))
 try simp only[ab]at *
 grind
def aGA:=fb (oz::Sc::Ip::(.not JQ)::Pz) gQ<|fF fun F p0 p1 p2 p3 p4 p5 p6 p7 p8 p9=>by
 have:=(@dg F Y6 Y4 Y3 Y7 Y5 Y0)
 try simp only[ab]at *
 grind
def al9:=fb ([FJ,Y7]) gQ<|au fun F p0 p1=>by
 have:=(@dg F Y6 Y4 Y3 Y7 Y5 Y0)
 try simp only[ab]at *
 grind
def avZ:=fb ([FJ,(.not LD)]) xr<|au fun F p0 p1=>by
 simp_all
def aDi:=fb ([JQ]) gQ<|az fun F p0=>by
 have:=(@dg F Y6 Y4 Y3 Y7 Y5 Y0)
 try simp only[ab]at *
 grind
def aCR:=fb ([LD]) gQ<|az fun F p0=>by
 have:=(@dg F Y6 Y4 Y3 Y7 Y5 Y0)
 try simp only[ab]at *
 grind
def aG8:=fb ([Y20]) gQ<|az fun F p0=>by
 have:=(@dg F Y6 Y4 Y3 Y7 Y5 Y0)
 try simp only[ab]at *
 grind
def arM:=fb ([FU]) gQ<|az fun F p0=>by
 have:=(@dg F Y6 Y4 Y3 Y7 Y5 Y0)
 try simp only[ab]at *
 grind
def ahS:=fb ([Y23]) gQ<|az fun F p0=>by
 have:=(@dg F Y6 Y4 Y3 Y7 Y5 Y0)
 try simp only[ab]at *
 grind
def ain:=fb ([VV]) gQ<|az fun F p0=>by
 have:=(@dg F Y6 Y4 Y3 Y7 Y5 Y0)
 try simp only[ab]at *
 grind
def aCa:=fb ([NV]) gQ<|az fun F p0=>by
 have:=(@dg F Y6 Y4 Y3 Y7 Y5 Y0)
 try simp only[ab]at *
 grind
def aya:=fb ([oz]) tl<|az fun F p0=>by
 simp_all
def aeV:=fb ([(.not Y7)]) tl<|az fun F p0=>by
 simp_all
def alp:=fa ((fn 101 (pr Y0 (.int 0))))<|fun F=>by
 rfl
def aBg:=fb (jM::sb::B0::(.not Bn)::Xz::(.not Y44)::(.not Ib)::rk::tl::VN) gQ<|vc fun F p0 p1 p2 p3 p4 p5 p6 p7 p8 p9 ao av ax aB aC aE aL aQ=>by
 have:=(@dg F Y6 Y4 Y3 Y7 Y5 Y0)
 have:=fun h0 h1=>@lT F _ _ (fn 9 (pr Y0 (.int 2))) h0 h1 (fn 1 _) (fn 1 (pr Y0 (fn 6 (pr (fn 8 (pr aJ _)) _)))) rfl rfl
 try simp only[ab]at *
 grind
def akU:=fb ([xr]) xr<|az fun F p0=>by
 omega
def aFK:=fb (jM::sb::B0::Bn::lq) gQ<|aT fun F p0 p1 p2 p3 p4=>by
 have:=(@dg F Y6 Y4 Y3 Y7 Y5 Y0)
 have:=fun h0 h1=>@lT F _ _ (fn 9 (pr Y0 (.int 2))) h0 h1 _ (fn 1 (pr Y0 (fn 6 (pr (fn 8 (pr aJ _)) _)))) rfl rfl
 try simp only[ab]at *
 grind
def amL:=fb (jM::sb::O7::lq) gQ<|aF fun F p0 p1 p2 p3=>by
 have:=(@dg F Y6 Y4 Y3 Y7 Y5 Y0)
 have:=fun h0 h1=>@lT F _ _ (fn 9 (pr Y0 (.int 2))) h0 h1 _ (fn 1 (pr Y0 (fn 6 (pr (fn 8 (pr aJ _)) _)))) rfl rfl
 try simp only[ab]at *
 grind
def aAE:=fb (jM::sb::Ib::lq) gQ<|aF fun F p0 p1 p2 p3=>by
 have:=(@dg F Y6 Y4 Y3 Y7 Y5 Y0)
 have:=fun h0 h1=>@lT F _ _ (fn 9 (pr Y0 (.int 2))) h0 h1 (fn 1 _) (fn 1 (pr Y0 (fn 6 (pr (fn 8 (pr aJ _)) _)))) rfl rfl
 try simp only[ab]at *
 grind
def apa:=fb (jM::Yf::lq) gQ<|am fun F p0 p1 p2=>by
 have:=(@dg F Y6 Y4 Y3 Y7 Y5 Y0)
 have:=fun h0 h1=>@lT F _ _ (fn 9 (pr Y0 (.int 2))) h0 h1 (fn 1 _) (fn 1 (pr Y0 (fn 6 (pr (fn 8 (pr aJ _)) _)))) rfl rfl
 try simp only[ab]at *
 grind
def axf:=fb ((.not jM)::Y53::tl::xr::VN) (.iff (.bool true) QW)<|gP fun F p0 p1 p2 p3 p4 p5 p6 p7 p8 p9 ao av ax=>by
 have:=(@dg F Y6 Y4 Y3 Y7 Y5 Y0)
 have:=fun h1=>@acx F _ _ (fn 9 (pr Y0 (.int 2))) p1 h1
 try simp only[ab]at *
 grind
def ajB:=fb ([tl]) tl<|az fun F p0=>by
 omega
def arT:=fb (jM::Mu) I0<|am fun F p0 p1 p2=>by
 try simp only[ab,aj]at *
 obtain⟨a3,ea3,qa3⟩:=ah ((E.I F aJ)+(1))
 omega
def aCE:=fb (jM::lq) (.not (cmp .lss (fn 9 (pr Y0 (.int 2))) (.ar .add .i64 aJ (.int 1))))<|au fun F p0 p1=>by
 try simp only[ab,aj]at *
 obtain⟨a3,ea3,qa3⟩:=ah ((E.I F aJ)+(1))
 omega
def anE:=fb (jM::sb::B0::(.not Bn)::Y44::OH) Sr<|dK fun F p0 p1 p2 p3 p4 p5 p6 p7 p8=>by
 have:=@aA F aJ (.int 1)
 have:=fun h0 hm=>@EX F _ (.ar .add .i64 aJ (.int 1)) _ p6 h0 hm (fn 1 _) (fn 1 _) rfl rfl
 try simp only[ab]at *
 grind
def agc:=fb (jM::sb::B0::(.not Bn)::(.not Xz)::OH) Sr<|dK fun F p0 p1 p2 p3 p4 p5 p6 p7 p8=>by
 have:=@aA F aJ (.int 1)
 have:=fun h0 hm=>@EX F _ (.ar .add .i64 aJ (.int 1)) _ p6 h0 hm (fn 1 _) (fn 1 _) rfl rfl
 try simp only[ab]at *
 grind
def ak1:=fb (jM::Mu) (cmp .lss (fn 7 (pr (fn 9 (pr Y0 (.int 2))) (.ar .add .i64 aJ (.int 1)))) (fn 7 (pr (fn 9 (pr Y0 (.int 2))) aJ)))<|am fun F p0 p1 p2=>by
 try simp only[ab,aj]at *
 obtain⟨a3,ea3,qa3⟩:=ah ((E.I F aJ)+(1))
 omega
def aCB:=fb (jM::lq) (.not (cmp .lss (fn 7 (pr (fn 9 (pr Y0 (.int 2))) (.ar .add .i64 aJ (.int 1)))) (.int 0)))<|au fun F p0 p1=>by
 try simp only[ab,aj]at *
 obtain⟨a3,ea3,qa3⟩:=ah ((E.I F aJ)+(1))
 omega
def bF:List Fa:=[aGU,atT,aGA,al9,avZ,aDi,aCR,aG8,arM,ahS,ain,aCa,G13,aya,aeV,alp,aBg,akU,aFK,amL,aAE,apa,axf,ajB,arT,aCE,anE,agc,ak1,aCB]
theorem auM:aU Try.prog (bn (ae1)):=sc bF (ayx) Xp ([]) (by kernel_rfl) (by kernel_rfl)
def ac4:Nl:=nc auM Xp
def afk:=fb So I0<|am fun F p0 p1 p2=>by
 try simp only[ab,aj]at *
 obtain⟨a4,ea4,qa4⟩:=ah ((E.I F aJ)+(1))
 omega
def auX:=fb ([(.not mf),Gg]) (cmp .eql jl (fn 121 (pr Y3 Y4)))<|au fun F p0 p1=>by
 have:=@aGx F Y3 Y4 aJ
 try simp only[ab]at *
 grind
def awu:=fb (mf::lq) (.not (cmp .lss (fn 0 Y3) (.ar .add .i64 aJ (.int 1))))<|au fun F p0 p1=>by
 try simp only[ab,aj]at *
 obtain⟨a4,ea4,qa4⟩:=ah ((E.I F aJ)+(1))
 omega
def aFA:=fb ([(.not mf),LW,Gg,(.not (cmp .lss (fn 0 Y3) aJ))]) (.not (cmp .lss (fn 0 Y3) jl))<|aF fun F p0 p1 p2 p3=>by
 try simp only[ab]at *
 omega
def afq:=fb (mf::Ur::Ks) (cmp .eql (.ar .add .i64 jl (.int 1)) (fn 131 (pr Y3 (pr Y4 (.ar .add .i64 aJ (.int 1))))))<|ck fun F p0 p1 p2 p3 p4 p5 p6=>by
 have:=@aA F aJ (.int 1)
 have:=@My F Y3 Y4 aJ (.ar .add .i64 aJ (.int 1))
 try simp only[ab,aj]at *
 obtain⟨a7,ea7,qa7⟩:=ah ((E.I F jl)+(1))
 omega
def asX:=fb (mf::(.not Ur)::Ks) (cmp .eql jl (fn 131 (pr Y3 (pr Y4 (.ar .add .i64 aJ (.int 1))))))<|ck fun F p0 p1 p2 p3 p4 p5 p6=>by
 have:=@aA F aJ (.int 1)
 have:=@My F Y3 Y4 aJ (.ar .add .i64 aJ (.int 1))
 try simp only[ab]at *
 grind
def awg:=fb Yn (.not (cmp .lss (.ar .add .i64 jl (.int 1)) (.int 0)))<|bU fun F p0 p1 p2 p3 p4 p5=>by
 try simp only[ab,aj]at *
 obtain⟨a4,ea4,qa4⟩:=ah ((E.I F jl)+(1))
 omega
def aGm:=fb (mf::LW::Sk) (.not (cmp .lss (.ar .add .i64 aJ (.int 1)) jl))<|aT fun F p0 p1 p2 p3 p4=>by
 try simp only[ab,aj]at *
 obtain⟨a4,ea4,qa4⟩:=ah ((E.I F aJ)+(1))
 omega
def aGW:=fb Yn (.not (cmp .lss (.ar .add .i64 aJ (.int 1)) (.ar .add .i64 jl (.int 1))))<|bU fun F p0 p1 p2 p3 p4 p5=>by
 try simp only[ab,aj]at *
 obtain⟨a4,ea4,qa4⟩:=ah ((E.I F aJ)+(1))
 obtain⟨a5,ea5,qa5⟩:=ah ((E.I F jl)+(1))
 omega
def amn:=fb So (cmp .lss (fn 7 (pr (fn 0 Y3) (.ar .add .i64 aJ (.int 1)))) (fn 7 (pr (fn 0 Y3) aJ)))<|am fun F p0 p1 p2=>by
 try simp only[ab,aj]at *
 obtain⟨a4,ea4,qa4⟩:=ah ((E.I F aJ)+(1))
 omega
def avi:=fb (mf::lq) (.not (cmp .lss (fn 7 (pr (fn 0 Y3) (.ar .add .i64 aJ (.int 1)))) (.int 0)))<|au fun F p0 p1=>by
 try simp only[ab,aj]at *
 obtain⟨a4,ea4,qa4⟩:=ah ((E.I F aJ)+(1))
 omega
def bR:List Fa:=[Nr,afk,auX,awu,aFA,afq,asX,awg,aGm,aGW,amn,avi]
theorem atN:aU Try.prog (bn (ayd)):=sc bR (ail) ac4 ([]) (by kernel_rfl) (by kernel_rfl)
def WP:Nl:=nc atN ac4
def anZ:=fa ((cmp .eql (fn 120 (pr Y3 (pr Y4 (.int 0)))) (.int (-1))))<|fun F=>by
 rfl
def ahf:=fb (DG::Y80::Gz::lq) (cmp .eql aJ (fn 120 (pr Y3 (pr Y4 (fn 9 (pr (fn 1 (pr Y3 (.int 0))) (.int 12)))))))<|aF fun F p0 p1 p2 p3=>by
 have:=fun h=>@Vv F Y4 _ (fn 6 (pr aJ (.int 1))) _ (fn 9 (pr (fn 1 (pr Y3 (.int 0))) (.int 12))) h (fn 1 (pr (fn 1 (pr Y3 _)) (fn 6 (pr (fn 8 (pr aJ _)) _)))) rfl
 try simp only[ab]at *
 grind
def afs:=fb (l9::Bb) I0<|am fun F p0 p1 p2=>by
 have:=aw p0
 try simp only[ab,aj]at *
 obtain⟨a3,ea3,qa3⟩:=ah ((E.I F aJ)+(1))
 omega
def asW:=fb ([(.not DG),Gz,(.not (cmp .lss (fn 9 (pr (fn 1 (pr Y3 (.int 0))) (.int 12))) aJ))]) (cmp .eql (fn 120 (pr Y3 (pr Y4 (fn 9 (pr (fn 1 (pr Y3 (.int 0))) (.int 12)))))) (.int (-1)))<|am fun F p0 p1 p2=>by
 have:=@aly F Y4 aJ (fn 9 (pr (fn 1 (pr Y3 (.int 0))) (.int 12))) Y3
 try simp only[ab]at *
 grind
def aDa:=fb Bb (.not (cmp .lss (fn 9 (pr (fn 1 (pr Y3 (.int 0))) (.int 12))) (.ar .add .i64 aJ (.int 1))))<|au fun F p0 p1=>by
 try simp only[ab,aj]at *
 obtain⟨a3,ea3,qa3⟩:=ah ((E.I F aJ)+(1))
 omega
def aF0:=fb (DG::(.not Y80)::Gz::rk::fR) (cmp .eql (fn 120 (pr Y3 (pr Y4 (.ar .add .i64 aJ (.int 1))))) (.int (-1)))<|aT fun F p0 p1 p2 p3 p4=>by
 have:=aw p4
 have:=@aA F aJ (.int 1)
 have:=fun h=>@Vv F Y4 _ (.ar .add .i64 aJ (.int 1)) _ (fn 9 (pr (fn 1 (pr Y3 (.int 0))) (.int 12))) h (fn 1 (pr (fn 1 (pr Y3 _)) (fn 6 (pr (fn 8 (pr aJ _)) _)))) rfl
 try simp only[ab]at *
 grind
def axm:=fb (l9::Bb) (cmp .lss (fn 7 (pr (fn 9 (pr (fn 1 (pr Y3 (.int 0))) (.int 12))) (.ar .add .i64 aJ (.int 1)))) (fn 7 (pr (fn 9 (pr (fn 1 (pr Y3 (.int 0))) (.int 12))) aJ)))<|am fun F p0 p1 p2=>by
 have:=aw p0
 try simp only[ab,aj]at *
 obtain⟨a3,ea3,qa3⟩:=ah ((E.I F aJ)+(1))
 omega
def aB2:=fb Bb (.not (cmp .lss (fn 7 (pr (fn 9 (pr (fn 1 (pr Y3 (.int 0))) (.int 12))) (.ar .add .i64 aJ (.int 1)))) (.int 0)))<|au fun F p0 p1=>by
 try simp only[ab,aj]at *
 obtain⟨a3,ea3,qa3⟩:=ah ((E.I F aJ)+(1))
 omega
def cf:List Fa:=[Kf,anZ,ahf,afs,asW,aDa,aF0,axm,aB2]
theorem aE0:aU Try.prog (bn (aub)):=sc cf (asL) WP ([]) (by kernel_rfl) (by kernel_rfl)
def Wt:Nl:=nc aE0 WP
def azQ:=fb fR (.not (cmp .lss (.int 1000) (fn 0 (fn 1 (pr Y3 (.int 6))))))<|az fun F p0=>by
 have:=aw p0
 try simp only[ab]at *
 omega
def az5:=fb fR (.not (cmp .lss (.int 1000) (fn 0 (fn 1 (pr Y3 (.int 20))))))<|az fun F p0=>by
 have:=aw p0
 try simp only[ab]at *
 omega
def aFH:=fb fR (.not (cmp .lss (.int 1000) (fn 0 (fn 1 (pr Y3 (.int 7))))))<|az fun F p0=>by
 have:=aw p0
 try simp only[ab]at *
 omega
def anT:=fb fR (.not (cmp .lss (.int 1000) (fn 0 (fn 1 (pr Y3 (.int 21))))))<|az fun F p0=>by
 have:=aw p0
 try simp only[ab]at *
 omega
def ac3:=fb fR (.not (cmp .lss (.int 1000) (fn 0 (fn 1 (pr Y3 (.int 8))))))<|az fun F p0=>by
 have:=aw p0
 try simp only[ab]at *
 omega
def aab:=fb fR (.not (cmp .lss (.int 1000) (fn 0 (fn 1 (pr Y3 (.int 22))))))<|az fun F p0=>by
 have:=aw p0
 try simp only[ab]at *
 omega
def aC0:=fb fR (.not (cmp .lss (.int 1000) (fn 0 (fn 1 (pr Y3 (.int 9))))))<|az fun F p0=>by
 have:=aw p0
 try simp only[ab]at *
 omega
def atU:=fb fR (.not (cmp .lss (.int 1000) (fn 0 (fn 1 (pr Y3 (.int 23))))))<|az fun F p0=>by
 have:=aw p0
 try simp only[ab]at *
 omega
def azd:=fb (Y85::Hw) TQ<|rU fun F p0 p1 p2 p3 p4 p5 p6 p7 p8 p9 ao av ax aB=>by
 have:=aw aB
 have:=@azY F Y5 Y4 Y3
 have:=@Wq F Y5 Y4 Y3 (.int 0)
 try simp only[ab,aj]at *
 obtain⟨a15,ea15,qa15⟩:=ah ((0)+(E.I F Y6))
 try simp only[ea15]at *
 obtain⟨a16,ea16,qa16⟩:=ah (a15+(E.I F Y0))
 try simp only[ea16]at *
 obtain⟨a17,ea17,qa17⟩:=ah (a16+(E.I F Y7))
 try simp only[ea17]at *
 obtain⟨a18,ea18,qa18⟩:=ah (a17+(E.I F dh))
 omega
def ahu:=fb ((.not Y85)::aam::oz::Pa::Q7::CB::Rh::Rx::kD::aca::NY::mO::Tn::(.not (cmp .lss (.int 1) Y4))::Dd::fR) TQ<|lf fun F p0 p1 p2 p3 p4 p5 p6 p7 p8 p9 ao av ax aB aC aE=>by
 have:=aw aE
 have:=@aut F Y5 Y4 Y3
 have:=@Wq F Y5 Y4 Y3 (.int 0)
 try simp only[ab,aj]at *
 obtain⟨a15,ea15,qa15⟩:=ah ((0)+(E.I F Y6))
 try simp only[ea15]at *
 obtain⟨a16,ea16,qa16⟩:=ah (a15+(E.I F Y0))
 try simp only[ea16]at *
 obtain⟨a17,ea17,qa17⟩:=ah (a16+(E.I F Y7))
 try simp only[ea17]at *
 obtain⟨a18,ea18,qa18⟩:=ah (a17+(E.I F dh))
 omega
def aCM:=fb Hw NG<|gP fun F p0 p1 p2 p3 p4 p5 p6 p7 p8 p9 ao av ax=>by
 have:=aw ax
 try simp only[ab,aj]at *
 obtain⟨a12,ea12,qa12⟩:=ah ((0)+(E.I F Y6))
 try simp only[ea12]at *
 obtain⟨a13,ea13,qa13⟩:=ah (a12+(E.I F Y0))
 try simp only[ea13]at *
 obtain⟨a14,ea14,qa14⟩:=ah (a13+(E.I F Y7))
 try simp only[ea14]at *
 obtain⟨a15,ea15,qa15⟩:=ah (a14+(E.I F dh))
 omega
def avS:=fb S5 NG<|gP fun F p0 p1 p2 p3 p4 p5 p6 p7 p8 p9 ao av ax=>by
 have:=aw ax
 try simp only[ab,aj]at *
 obtain⟨a12,ea12,qa12⟩:=ah ((0)+(E.I F Y6))
 try simp only[ea12]at *
 obtain⟨a13,ea13,qa13⟩:=ah (a12+(E.I F Y0))
 try simp only[ea13]at *
 obtain⟨a14,ea14,qa14⟩:=ah (a13+(E.I F Y7))
 try simp only[ea14]at *
 obtain⟨a15,ea15,qa15⟩:=ah (a14+(E.I F dh))
 omega
def apA:=fb Hw RF<|gP fun F p0 p1 p2 p3 p4 p5 p6 p7 p8 p9 ao av ax=>by
 have:=aw ax
 try simp only[ab,aj]at *
 obtain⟨a12,ea12,qa12⟩:=ah ((0)+(E.I F Y6))
 try simp only[ea12]at *
 obtain⟨a13,ea13,qa13⟩:=ah (a12+(E.I F Y0))
 try simp only[ea13]at *
 obtain⟨a14,ea14,qa14⟩:=ah (a13+(E.I F Y7))
 try simp only[ea14]at *
 obtain⟨a15,ea15,qa15⟩:=ah (a14+(E.I F dh))
 omega
def axK:=fb S5 RF<|gP fun F p0 p1 p2 p3 p4 p5 p6 p7 p8 p9 ao av ax=>by
 have:=aw ax
 try simp only[ab,aj]at *
 obtain⟨a12,ea12,qa12⟩:=ah ((0)+(E.I F Y6))
 try simp only[ea12]at *
 obtain⟨a13,ea13,qa13⟩:=ah (a12+(E.I F Y0))
 try simp only[ea13]at *
 obtain⟨a14,ea14,qa14⟩:=ah (a13+(E.I F Y7))
 try simp only[ea14]at *
 obtain⟨a15,ea15,qa15⟩:=ah (a14+(E.I F dh))
 omega
def P4:=fb A9 (.not (cmp .lss (.ar .add .i64 bl (.int 1)) (.int 0)))<|am fun F p0 p1 p2=>by
 have:=aw p0
 try simp only[ab,aj]at *
 obtain⟨a5,ea5,qa5⟩:=ah ((E.I F bl)+(1))
 omega
def akb:=fb ([Cg,JD,Mn,Dd]) (cmp .eql ey (fn 122 (pr Y3 (pr Y4 Y5))))<|aF fun F p0 p1 p2 p3=>by
 have:=@aE7 F Y5 Y4 Y3 bl
 try simp only[ab]at *
 grind
def Zy:=fb A9 (.not (cmp .lss (fn 9 (pr (fn 1 (pr Y3 (.int 29))) (.int 5))) (.ar .add .i64 bl (.int 1))))<|am fun F p0 p1 p2=>by
 try simp only[ab,aj]at *
 obtain⟨a5,ea5,qa5⟩:=ah ((E.I F bl)+(1))
 omega
def af4:=fb (Cg::JL::JD::Mn::fR) (.not (cmp .lss (.int 1000) ey))<|aT fun F p0 p1 p2 p3 p4=>by
 have:=aw p4
 try simp only[ab]at *
 omega
def afh:=fb (gp::Zw::acN::Tx::aa4) (cmp .eql (.ar .add .i64 ey (.int 1)) (fn 6 (pr (fn 132 (pr Y3 (pr Y4 (pr (.int 4) Y5)))) (fn 133 (pr Y3 (pr Y4 (pr Y5 (.ar .add .i64 bl (.int 1)))))))))<|dK fun F p0 p1 p2 p3 p4 p5 p6 p7 p8=>by
 have:=aw p8
 have:=@aA F bl (.int 1)
 have:=@EM F Y5 Y4 (.ar .add .i64 bl (.int 1)) _ _ _ _ (fn 1 (pr (fn 1 (pr Y3 _)) (fn 6 (pr (fn 8 (pr bl _)) _)))) rfl rfl rfl
 try simp only[ab,aj]at *
 obtain⟨a11,ea11,qa11⟩:=ah ((E.I F ey)+(1))
 omega
def ayp:=fb (gp::(.not Tx)::zm) Lc<|aT fun F p0 p1 p2 p3 p4=>by
 have:=aw p4
 have:=@aA F bl (.int 1)
 have:=@EM F Y5 Y4 (.ar .add .i64 bl (.int 1)) _ _ _ _ (fn 1 (pr (fn 1 (pr Y3 _)) (fn 6 (pr (fn 8 (pr bl _)) _)))) rfl rfl rfl
 try simp only[ab]at *
 grind
def aFc:=fb (gp::(.not acN)::zm) Lc<|aT fun F p0 p1 p2 p3 p4=>by
 have:=aw p4
 have:=@aA F bl (.int 1)
 have:=@EM F Y5 Y4 (.ar .add .i64 bl (.int 1)) _ _ _ _ (fn 1 (pr (fn 1 (pr Y3 _)) (fn 6 (pr (fn 8 (pr bl _)) _)))) rfl rfl rfl
 try simp only[ab]at *
 grind
def awV:=fb (gp::(.not Zw)::zm) Lc<|aT fun F p0 p1 p2 p3 p4=>by
 have:=aw p4
 have:=@aA F bl (.int 1)
 have:=@EM F Y5 Y4 (.ar .add .i64 bl (.int 1)) _ _ _ _ (fn 1 (pr (fn 1 (pr Y3 _)) (fn 6 (pr (fn 8 (pr bl _)) _)))) rfl rfl rfl
 try simp only[ab]at *
 grind
def azB:=fb Q9 aee<|bU fun F p0 p1 p2 p3 p4 p5=>by
 have:=aw p5
 try simp only[ab,aj]at *
 obtain⟨a5,ea5,qa5⟩:=ah ((E.I F ey)+(1))
 omega
def aur:=fb (gp::JL::zm) (.not (cmp .lss (fn 6 (pr (.int 160) (.ar .add .i64 bl (.int 1)))) ey))<|aT fun F p0 p1 p2 p3 p4=>by
 have:=aw p4
 try simp only[ab,aj]at *
 obtain⟨a5,ea5,qa5⟩:=ah ((E.I F bl)+(1))
 omega
def aqP:=fb Q9 (.not (cmp .lss (fn 6 (pr (.int 160) (.ar .add .i64 bl (.int 1)))) (.ar .add .i64 ey (.int 1))))<|bU fun F p0 p1 p2 p3 p4 p5=>by
 have:=aw p5
 try simp only[ab,aj]at *
 obtain⟨a5,ea5,qa5⟩:=ah ((E.I F bl)+(1))
 obtain⟨a6,ea6,qa6⟩:=ah ((E.I F ey)+(1))
 omega
def abA:=fb A9 (cmp .lss (fn 7 (pr (fn 9 (pr (fn 1 (pr Y3 (.int 29))) (.int 5))) (.ar .add .i64 bl (.int 1)))) (fn 7 (pr (fn 9 (pr (fn 1 (pr Y3 (.int 29))) (.int 5))) bl)))<|am fun F p0 p1 p2=>by
 have:=aw p0
 try simp only[ab,aj]at *
 obtain⟨a5,ea5,qa5⟩:=ah ((E.I F bl)+(1))
 omega
def VW:=fb A9 (.not (cmp .lss (fn 7 (pr (fn 9 (pr (fn 1 (pr Y3 (.int 29))) (.int 5))) (.ar .add .i64 bl (.int 1)))) (.int 0)))<|am fun F p0 p1 p2=>by
 try simp only[ab,aj]at *
 obtain⟨a5,ea5,qa5⟩:=ah ((E.I F bl)+(1))
 omega
def cD:List Fa:=[azQ,az5,aFH,anT,ac3,aab,aC0,atU,BT,azd,ahu,aCM,avS,apA,axK,P4,akb,Zy,af4,afh,ayp,aFc,awV,azB,aur,aqP,abA,VW]
theorem afv:aU Try.prog (bn (aFi)):=sc cD (azF) Wt ([]) (by kernel_rfl) (by kernel_rfl)
def VB:Nl:=nc afv Wt
def afF:=fb ([ij,ie,i9,QK]) j0<|aF fun F p0 p1 p2 p3=>by
 have:=@cm F Y3 Y4 Y5 Y6 Y0 Y7 dh gj aJ
 try simp only[ab]at *
 grind
def axA:=fb (ij::ie::i9::kp::Dd::l7::(.not mq)::Uo) j0<|dK fun F p0 p1 p2 p3 p4 p5 p6 p7 p8=>by
 have:=@cm F Y3 Y4 Y5 Y6 Y0 Y7 dh gj aJ
 try simp only[ab]at *
 grind
def axV:=fb ([ij,ie,i9,kp,l7,mq,Y95]) j0<|ck fun F p0 p1 p2 p3 p4 p5 p6=>by
 have:=@cm F Y3 Y4 Y5 Y6 Y0 Y7 dh gj aJ
 try simp only[ab]at *
 grind
def ajj:=fb ([ij,ie,i9,kp,l7,mq,kD,aef]) j0<|cU fun F p0 p1 p2 p3 p4 p5 p6 p7=>by
 have:=@cm F Y3 Y4 Y5 Y6 Y0 Y7 dh gj aJ
 try simp only[ab]at *
 grind
def ayK:=fb ([ij,ie,i9,kp,l7,mq,kD,mO,Xh]) j0<|dK fun F p0 p1 p2 p3 p4 p5 p6 p7 p8=>by
 have:=@cm F Y3 Y4 Y5 Y6 Y0 Y7 dh gj aJ
 try simp only[ab]at *
 grind
def aBy:=fb ([ij,ie,i9,kp,l7,mq,kD,mO,Av,Y46]) j0<|fF fun F p0 p1 p2 p3 p4 p5 p6 p7 p8 p9=>by
 have:=@cm F Y3 Y4 Y5 Y6 Y0 Y7 dh gj aJ
 try simp only[ab]at *
 grind
def aio:=fb (ij::ie::i9::kp::l7::mq::kD::mO::Av::rk::Hu::(.not Im)::Oc) aeR<|wv fun F p0 p1 p2 p3 p4 p5 p6 p7 p8 p9 ao av ax aB aC=>by
 have:=@cm F Y3 Y4 Y5 Y6 Y0 Y7 dh gj aJ
 try simp only[ab]at *
 grind
def aBz:=fb ([ij,ie,i9,kp,l7,mq,kD,mO,Av,XP]) j0<|fF fun F p0 p1 p2 p3 p4 p5 p6 p7 p8 p9=>by
 have:=@cm F Y3 Y4 Y5 Y6 Y0 Y7 dh gj aJ
 try simp only[ab]at *
 grind
def axL:=fb ([ij,ie,i9,kp,l7,mq,kD,mO,Wk]) j0<|dK fun F p0 p1 p2 p3 p4 p5 p6 p7 p8=>by
 have:=@cm F Y3 Y4 Y5 Y6 Y0 Y7 dh gj aJ
 try simp only[ab]at *
 grind
def aDs:=fb ([ij,ie,i9,kp,l7,mq,kD,aaS]) j0<|cU fun F p0 p1 p2 p3 p4 p5 p6 p7=>by
 have:=@cm F Y3 Y4 Y5 Y6 Y0 Y7 dh gj aJ
 try simp only[ab]at *
 grind
def awP:=fb (ij::ie::i9::kp::Dd::(.not l7)::Uo) j0<|cU fun F p0 p1 p2 p3 p4 p5 p6 p7=>by
 have:=@cm F Y3 Y4 Y5 Y6 Y0 Y7 dh gj aJ
 try simp only[ab]at *
 grind
def au8:=fb (ij::ie::i9::kp::Zb::oz::CB::kD::mO::Av::rk::Hu::(.not (cmp .lss (.int 99) Y6))::(.not (cmp .lss (.int 99) Y0))::Oc) aeR<|yE fun F p0 p1 p2 p3 p4 p5 p6 p7 p8 p9 ao av ax aB aC aE aL=>by
 have:=@cm F Y3 Y4 Y5 Y6 Y0 Y7 dh gj aJ
 try simp only[ab]at *
 grind
def avp:=fb ([ij,ie,FU]) j0<|am fun F p0 p1 p2=>by
 have:=@cm F Y3 Y4 Y5 Y6 Y0 Y7 dh gj aJ
 try simp only[ab]at *
 grind
def aC6:=fb ([ij,ie,Im]) j0<|am fun F p0 p1 p2=>by
 have:=@cm F Y3 Y4 Y5 Y6 Y0 Y7 dh gj aJ
 try simp only[ab]at *
 grind
def cW:List Fa:=[afF,axA,axV,ajj,ayK,aBy,aio,aBz,axL,aDs,awP,XF,PF,G66,Pj,U1,Sv,au8,Zi,Zc,RJ,Sn,Qk,avp,aC6,Pb,Q6,WQ]
theorem aDd:aU Try.prog (bn (Rf 71)):=sc cW ([]) VB ([]) (by kernel_rfl) (by kernel_rfl)
def Oa:Nl:=nc aDd VB
def ay2:=fb fR (cmp .eql (.ar .add .i64 (.ar .add .i64 (.ar .add .i64 (.ar .add .i64 (.ar .add .i64 (.ar .add .i64 (.ar .add .i64 (.ar .add .i64 (.int 0) (fn 0 (fn 1 (pr Y3 (.int 6))))) (fn 0 (fn 1 (pr Y3 (.int 7))))) (fn 0 (fn 1 (pr Y3 (.int 8))))) (fn 0 (fn 1 (pr Y3 (.int 9))))) (fn 0 (fn 1 (pr Y3 (.int 20))))) (fn 0 (fn 1 (pr Y3 (.int 21))))) (fn 0 (fn 1 (pr Y3 (.int 22))))) (fn 0 (fn 1 (pr Y3 (.int 23))))) (fn 6 (pr (fn 134 (pr Y3 (.int 8))) (fn 135 (pr Y3 (.int 0))))))<|az fun F p0=>by
 have:=aw p0
 have:=@aDf F Y3
 have:=@aid F Y3 (.int 0)
 try simp only[ab,aj]at *
 have:=@ch F (fn 1 (pr Y3 (.int 6)))
 have:=@ch F (fn 1 (pr Y3 (.int 7)))
 have:=@ch F (fn 1 (pr Y3 (.int 8)))
 have:=@ch F (fn 1 (pr Y3 (.int 9)))
 have:=@ch F (fn 1 (pr Y3 (.int 20)))
 have:=@ch F (fn 1 (pr Y3 (.int 21)))
 have:=@ch F (fn 1 (pr Y3 (.int 22)))
 have:=@ch F (fn 1 (pr Y3 (.int 23)))
 obtain⟨a10,ea10,qa10⟩:=ah ((0)+(E.I F (fn 0 (fn 1 (pr Y3 (.int 6))))))
 obtain⟨a11,ea11,qa11⟩:=ah (a10+(E.I F (fn 0 (fn 1 (pr Y3 (.int 7))))))
 obtain⟨a12,ea12,qa12⟩:=ah (a11+(E.I F (fn 0 (fn 1 (pr Y3 (.int 8))))))
 obtain⟨a13,ea13,qa13⟩:=ah (a12+(E.I F (fn 0 (fn 1 (pr Y3 (.int 9))))))
 obtain⟨a14,ea14,qa14⟩:=ah (a13+(E.I F (fn 0 (fn 1 (pr Y3 (.int 20))))))
 obtain⟨a15,ea15,qa15⟩:=ah (a14+(E.I F (fn 0 (fn 1 (pr Y3 (.int 21))))))
 obtain⟨a16,ea16,qa16⟩:=ah (a15+(E.I F (fn 0 (fn 1 (pr Y3 (.int 22))))))
 obtain⟨a17,ea17,qa17⟩:=ah (a16+(E.I F (fn 0 (fn 1 (pr Y3 (.int 23))))))
 grind
def apQ:=fb fR (.not (cmp .lss (.ar .add .i64 (.ar .add .i64 (.ar .add .i64 (.ar .add .i64 (.ar .add .i64 (.ar .add .i64 (.ar .add .i64 (.ar .add .i64 (.int 0) (fn 0 (fn 1 (pr Y3 (.int 6))))) (fn 0 (fn 1 (pr Y3 (.int 7))))) (fn 0 (fn 1 (pr Y3 (.int 8))))) (fn 0 (fn 1 (pr Y3 (.int 9))))) (fn 0 (fn 1 (pr Y3 (.int 20))))) (fn 0 (fn 1 (pr Y3 (.int 21))))) (fn 0 (fn 1 (pr Y3 (.int 22))))) (fn 0 (fn 1 (pr Y3 (.int 23))))) (.int 0)))<|az fun F p0=>by
 have:=aw p0
 try simp only[ab,aj]at *
 have:=@ch F (fn 1 (pr Y3 (.int 6)))
 have:=@ch F (fn 1 (pr Y3 (.int 7)))
 have:=@ch F (fn 1 (pr Y3 (.int 8)))
 have:=@ch F (fn 1 (pr Y3 (.int 9)))
 have:=@ch F (fn 1 (pr Y3 (.int 20)))
 have:=@ch F (fn 1 (pr Y3 (.int 21)))
 have:=@ch F (fn 1 (pr Y3 (.int 22)))
 have:=@ch F (fn 1 (pr Y3 (.int 23)))
 obtain⟨a8,ea8,qa8⟩:=ah ((0)+(E.I F (fn 0 (fn 1 (pr Y3 (.int 6))))))
 obtain⟨a9,ea9,qa9⟩:=ah (a8+(E.I F (fn 0 (fn 1 (pr Y3 (.int 7))))))
 obtain⟨a10,ea10,qa10⟩:=ah (a9+(E.I F (fn 0 (fn 1 (pr Y3 (.int 8))))))
 obtain⟨a11,ea11,qa11⟩:=ah (a10+(E.I F (fn 0 (fn 1 (pr Y3 (.int 9))))))
 obtain⟨a12,ea12,qa12⟩:=ah (a11+(E.I F (fn 0 (fn 1 (pr Y3 (.int 20))))))
 obtain⟨a13,ea13,qa13⟩:=ah (a12+(E.I F (fn 0 (fn 1 (pr Y3 (.int 21))))))
 obtain⟨a14,ea14,qa14⟩:=ah (a13+(E.I F (fn 0 (fn 1 (pr Y3 (.int 22))))))
 obtain⟨a15,ea15,qa15⟩:=ah (a14+(E.I F (fn 0 (fn 1 (pr Y3 (.int 23))))))
 grind
def aGy:=fb fR (.not (cmp .lss (.int 320) (.ar .add .i64 (.ar .add .i64 (.ar .add .i64 (.ar .add .i64 (.ar .add .i64 (.ar .add .i64 (.ar .add .i64 (.ar .add .i64 (.int 0) (fn 0 (fn 1 (pr Y3 (.int 6))))) (fn 0 (fn 1 (pr Y3 (.int 7))))) (fn 0 (fn 1 (pr Y3 (.int 8))))) (fn 0 (fn 1 (pr Y3 (.int 9))))) (fn 0 (fn 1 (pr Y3 (.int 20))))) (fn 0 (fn 1 (pr Y3 (.int 21))))) (fn 0 (fn 1 (pr Y3 (.int 22))))) (fn 0 (fn 1 (pr Y3 (.int 23)))))))<|az fun F p0=>by
 have:=aw p0
 try simp only[ab,aj]at *
 have:=@ch F (fn 1 (pr Y3 (.int 6)))
 have:=@ch F (fn 1 (pr Y3 (.int 7)))
 have:=@ch F (fn 1 (pr Y3 (.int 8)))
 have:=@ch F (fn 1 (pr Y3 (.int 9)))
 have:=@ch F (fn 1 (pr Y3 (.int 20)))
 have:=@ch F (fn 1 (pr Y3 (.int 21)))
 have:=@ch F (fn 1 (pr Y3 (.int 22)))
 have:=@ch F (fn 1 (pr Y3 (.int 23)))
 obtain⟨a8,ea8,qa8⟩:=ah ((0)+(E.I F (fn 0 (fn 1 (pr Y3 (.int 6))))))
 obtain⟨a9,ea9,qa9⟩:=ah (a8+(E.I F (fn 0 (fn 1 (pr Y3 (.int 7))))))
 obtain⟨a10,ea10,qa10⟩:=ah (a9+(E.I F (fn 0 (fn 1 (pr Y3 (.int 8))))))
 obtain⟨a11,ea11,qa11⟩:=ah (a10+(E.I F (fn 0 (fn 1 (pr Y3 (.int 9))))))
 obtain⟨a12,ea12,qa12⟩:=ah (a11+(E.I F (fn 0 (fn 1 (pr Y3 (.int 20))))))
 obtain⟨a13,ea13,qa13⟩:=ah (a12+(E.I F (fn 0 (fn 1 (pr Y3 (.int 21))))))
 obtain⟨a14,ea14,qa14⟩:=ah (a13+(E.I F (fn 0 (fn 1 (pr Y3 (.int 22))))))
 obtain⟨a15,ea15,qa15⟩:=ah (a14+(E.I F (fn 0 (fn 1 (pr Y3 (.int 23))))))
 grind
def ay1:=fa ((fn 123 (pr Y3 (.int 0))))<|fun F=>by
 rfl
def aAQ:=fb (gp::sw::Lx::(.not aaI)::Ja) sQ<|bU fun F p0 p1 p2 p3 p4 p5=>by
 have:=@E1 F (fn 6 (pr bl (.int 1))) _ _ p4 _ _ _ _ (fn 1 (pr _ (fn 6 (pr (fn 8 (pr t7 _)) _)))) rfl rfl rfl rfl
 try simp only[ab]at *
 grind
def aG5:=fb (gp::sw::Lx::RU::Ja) sQ<|bU fun F p0 p1 p2 p3 p4 p5=>by
 have:=@E1 F (fn 6 (pr bl (.int 1))) _ _ p4 _ _ _ _ (fn 1 (pr _ (fn 6 (pr (fn 8 (pr t7 _)) _)))) rfl rfl rfl rfl
 try simp only[ab]at *
 grind
def aqM:=fb (Cg::abZ::Ye) (cmp .eql ey (fn 6 (pr (fn 134 (pr Y3 (.int 8))) (fn 135 (pr Y3 (fn 9 (pr (fn 1 (pr Y3 (.int 29))) (.int 5))))))))<|am fun F p0 p1 p2=>by
 have:=@apI F (fn 9 (pr (fn 1 (pr Y3 (.int 29))) (.int 5))) Y3 bl
 try simp only[ab]at *
 grind
def aBY:=fb (Cg::l9::aaQ::Ye) aem<|aF fun F p0 p1 p2 p3=>by
 have g0:E.I F (fn 9 (pr (fn 1 (pr Y3 (.int 29))) (.int 5)))=E.I F bl:=by
  try simp only[ab]at *
  omega
 grind[aoZ]
def ank:=fb (gp::(.not sw)::l9::JY) (cmp .eql ey (fn 6 (pr (fn 134 (pr Y3 (.int 8))) (fn 135 (pr Y3 (.ar .add .i64 bl (.int 1)))))))<|aT fun F p0 p1 p2 p3 p4=>by
 have:=aw p2
 have:=@aA F bl (.int 1)
 have:=@adc F (.ar .add .i64 bl (.int 1)) _ _ (fn 1 (pr (fn 1 (pr Y3 _)) (fn 6 (pr (fn 8 (pr bl _)) _)))) rfl
 try simp only[ab]at *
 grind
def apD:=fb (gp::sw::abM) (cmp .eql (.ar .add .i64 ey (.int 1)) (fn 6 (pr (fn 134 (pr Y3 (.int 8))) (fn 135 (pr Y3 (.ar .add .i64 bl (.int 1)))))))<|ck fun F p0 p1 p2 p3 p4 p5 p6=>by
 have:=aw p2
 have:=@aA F bl (.int 1)
 have:=@adc F (.ar .add .i64 bl (.int 1)) _ _ (fn 1 (pr (fn 1 (pr Y3 _)) (fn 6 (pr (fn 8 (pr bl _)) _)))) rfl
 try simp only[ab,aj]at *
 obtain⟨a9,ea9,qa9⟩:=ah ((E.I F ey)+(1))
 omega
def at5:=fa ((fn 124 (pr Y3 (.int 0))))<|fun F=>by
 rfl
def apW:=fb (gp::l9::O9::JY) (.not (cmp .lss (fn 6 (pr (.int 320) (.ar .add .i64 bl (.int 1)))) ey))<|aT fun F p0 p1 p2 p3 p4=>by
 have:=aw p1
 try simp only[ab,aj]at *
 obtain⟨a5,ea5,qa5⟩:=ah ((E.I F bl)+(1))
 omega
def avU:=fb Ss aee<|bU fun F p0 p1 p2 p3 p4 p5=>by
 have:=aw p1
 try simp only[ab,aj]at *
 obtain⟨a7,ea7,qa7⟩:=ah ((E.I F ey)+(1))
 omega
def aE4:=fb GO (.not (cmp .lss (.ar .sub .i64 aY (.int 1)) (.int 0)))<|am fun F p0 p1 p2=>by
 have:=aw p0
 try simp only[ab,aj]at *
 obtain⟨a5,ea5,qa5⟩:=ah ((E.I F aY)-(1))
 omega
def ayj:=fb ([oN,mT]) (.not (cmp .lss (fn 1 (pr (fn 1 (pr Y3 (.int 0))) (fn 6 (pr (fn 8 (pr aY (.int 12))) (.int 2))))) (.int 0)))<|au fun F p0 p1=>by
 have:=@cm F (fn 1 (pr (fn 1 (pr Y3 (.int 0))) (fn 6 (pr (fn 8 (pr aY (.int 12))) (.int 0))))) (fn 1 (pr (fn 1 (pr Y3 (.int 0))) (fn 6 (pr (fn 8 (pr aY (.int 12))) (.int 1))))) (fn 1 (pr (fn 1 (pr Y3 (.int 0))) (fn 6 (pr (fn 8 (pr aY (.int 12))) (.int 2))))) (fn 1 (pr (fn 1 (pr Y3 (.int 0))) (fn 6 (pr (fn 8 (pr aY (.int 12))) (.int 3))))) (fn 1 (pr (fn 1 (pr Y3 (.int 0))) (fn 6 (pr (fn 8 (pr aY (.int 12))) (.int 4))))) (fn 1 (pr (fn 1 (pr Y3 (.int 0))) (fn 6 (pr (fn 8 (pr aY (.int 12))) (.int 5))))) (fn 1 (pr (fn 1 (pr Y3 (.int 0))) (fn 6 (pr (fn 8 (pr aY (.int 12))) (.int 6))))) (fn 1 (pr (fn 1 (pr Y3 (.int 0))) (fn 6 (pr (fn 8 (pr aY (.int 12))) (.int 7))))) (fn 1 (pr (fn 1 (pr Y3 (.int 0))) (fn 6 (pr (fn 8 (pr aY (.int 12))) (.int 8)))))
 try simp only[ab]at *
 grind
def asJ:=fb ([(.not nV),IA,aem,(cmp .eql (var 25) (fn 6 (pr (fn 134 (pr Y3 (.int 8))) (fn 135 (pr Y3 (fn 9 (pr (fn 1 (pr Y3 (.int 29))) (.int 5)))))))),(.not (cmp .lss (fn 9 (pr (fn 1 (pr Y3 (.int 0))) (.int 12))) aY))]) (.iff (cmp .eql (var 25) (fn 9 (pr (fn 1 (pr Y3 (.int 0))) (.int 12)))) (fn 125 Y3))<|aT fun F p0 p1 p2 p3 p4=>by
 have:=@ak8 F _ _ (var 25) p2 p1
 try simp only[ab]at *
 grind
def ast:=fb (gp::(.not sw)::O1) S1<|aT fun F p0 p1 p2 p3 p4=>by
 have:=aw p2
 have:=@aA F bl (.int 1)
 have:=@E1 F (.ar .add .i64 bl (.int 1)) _ _ p3 _ _ _ _ (fn 1 (pr _ (fn 6 (pr (fn 8 (pr (.int 0) _)) _)))) rfl rfl rfl rfl
 try simp only[ab]at *
 grind
def aoH:=fb Ss (.not (cmp .lss (fn 6 (pr (.int 320) (.ar .add .i64 bl (.int 1)))) (.ar .add .i64 ey (.int 1))))<|bU fun F p0 p1 p2 p3 p4 p5=>by
 have:=aw p1
 try simp only[ab,aj]at *
 obtain⟨a7,ea7,qa7⟩:=ah ((E.I F bl)+(1))
 obtain⟨a8,ea8,qa8⟩:=ah ((E.I F ey)+(1))
 omega
def aBQ:=fb DL (cmp .lss (.ar .sub .i64 aY (.int 1)) (fn 9 (pr (fn 1 (pr Y3 (.int 0))) (.int 12))))<|au fun F p0 p1=>by
 try simp only[ab,aj]at *
 obtain⟨a5,ea5,qa5⟩:=ah ((E.I F aY)-(1))
 omega
def au4:=fb ([oN,mT]) (.not (cmp .lss (.int 1) (fn 1 (pr (fn 1 (pr Y3 (.int 0))) (fn 6 (pr (fn 8 (pr aY (.int 12))) (.int 2)))))))<|au fun F p0 p1=>by
 have:=@cm F (fn 1 (pr (fn 1 (pr Y3 (.int 0))) (fn 6 (pr (fn 8 (pr aY (.int 12))) (.int 0))))) (fn 1 (pr (fn 1 (pr Y3 (.int 0))) (fn 6 (pr (fn 8 (pr aY (.int 12))) (.int 1))))) (fn 1 (pr (fn 1 (pr Y3 (.int 0))) (fn 6 (pr (fn 8 (pr aY (.int 12))) (.int 2))))) (fn 1 (pr (fn 1 (pr Y3 (.int 0))) (fn 6 (pr (fn 8 (pr aY (.int 12))) (.int 3))))) (fn 1 (pr (fn 1 (pr Y3 (.int 0))) (fn 6 (pr (fn 8 (pr aY (.int 12))) (.int 4))))) (fn 1 (pr (fn 1 (pr Y3 (.int 0))) (fn 6 (pr (fn 8 (pr aY (.int 12))) (.int 5))))) (fn 1 (pr (fn 1 (pr Y3 (.int 0))) (fn 6 (pr (fn 8 (pr aY (.int 12))) (.int 6))))) (fn 1 (pr (fn 1 (pr Y3 (.int 0))) (fn 6 (pr (fn 8 (pr aY (.int 12))) (.int 7))))) (fn 1 (pr (fn 1 (pr Y3 (.int 0))) (fn 6 (pr (fn 8 (pr aY (.int 12))) (.int 8)))))
 try simp only[ab]at *
 grind
def ag0:=fb (gp::sw::Lx::(.not RU)::aaI::O1) S1<|cU fun F p0 p1 p2 p3 p4 p5 p6 p7=>by
 have:=aw p5
 have:=@aA F bl (.int 1)
 have:=@E1 F (.ar .add .i64 bl (.int 1)) _ _ p6 _ _ _ _ (fn 1 (pr _ (fn 6 (pr (fn 8 (pr t7 _)) _)))) rfl rfl rfl rfl
 try simp only[ab]at *
 grind
def amU:=fb (nV::oN::mT::JB::C0::(.not Fm)::abC) sQ<|cU fun F p0 p1 p2 p3 p4 p5 p6 p7=>by
 have:=@sK F _ (fn 6 (pr aY (.int 1))) _ p6 (.ar .sub .i64 aY (.int 1)) _ _ _ _ _ _ _ _ _ rfl rfl rfl rfl rfl rfl rfl rfl rfl
 try simp only[ab]at *
 grind
def aCm:=fb Hd Up<|au fun F p0 p1=>by
 try simp only[ab,aj]at *
 obtain⟨a6,ea6,qa6⟩:=ah ((E.I F aY)+(1))
 omega
def aGX:=fb (nV::oN::mT::wi::HL::C0::(.not Fm)::C2) sQ<|fF fun F p0 p1 p2 p3 p4 p5 p6 p7 p8 p9=>by
 have:=aw p9
 have:=@bz F aY (.int 1)
 have:=@sK F _ (fn 6 (pr aY (.int 1))) _ p7 (.ar .sub .i64 aY (.int 1)) _ _ _ _ _ _ _ _ _ rfl rfl rfl rfl rfl rfl rfl rfl rfl
 try simp only[ab]at *
 grind
def aDt:=fb GO Up<|am fun F p0 p1 p2=>by
 have:=aw p0
 try simp only[ab,aj]at *
 obtain⟨a7,ea7,qa7⟩:=ah ((E.I F aY)+(1))
 omega
def av1:=fb (nV::oN::mT::wi::(.not HL)::C2) sQ<|cU fun F p0 p1 p2 p3 p4 p5 p6 p7=>by
 have:=aw p7
 have:=@bz F aY (.int 1)
 have:=@sK F _ (fn 6 (pr aY (.int 1))) _ p5 (.ar .sub .i64 aY (.int 1)) _ _ _ _ _ _ _ _ _ rfl rfl rfl rfl rfl rfl rfl rfl rfl
 try simp only[ab]at *
 grind
def azR:=fb (nV::oN::(.not mT)::C2) sQ<|bU fun F p0 p1 p2 p3 p4 p5=>by
 have:=aw p5
 have:=@bz F aY (.int 1)
 have:=@sK F _ (fn 6 (pr aY (.int 1))) _ p3 (.ar .sub .i64 aY (.int 1)) _ _ _ _ _ _ _ _ _ rfl rfl rfl rfl rfl rfl rfl rfl rfl
 try simp only[ab]at *
 grind
def agv:=fb OF abo<|am fun F p0 p1 p2=>by
 try simp only[ab,aj]at *
 obtain⟨a7,ea7,qa7⟩:=ah ((E.I F aY)+(1))
 omega
def agX:=fb DL abo<|au fun F p0 p1=>by
 try simp only[ab,aj]at *
 obtain⟨a7,ea7,qa7⟩:=ah ((E.I F aY)+(1))
 omega
def ajb:=fb (nV::oN::mT::JB::C0::Fm::abC) Tj<|cU fun F p0 p1 p2 p3 p4 p5 p6 p7=>by
 have:=@aA F aY (.int 1)
 have:=@sK F _ (.ar .add .i64 aY (.int 1)) _ p6 (.ar .sub .i64 aY (.int 1)) _ _ _ _ _ _ _ _ _ rfl rfl rfl rfl rfl rfl rfl rfl rfl
 try simp only[ab]at *
 grind
def aoX:=fb (nV::oN::mT::wi::HL::C0::Fm::C2) Tj<|fF fun F p0 p1 p2 p3 p4 p5 p6 p7 p8 p9=>by
 have:=aw p9
 have:=@bz F aY (.int 1)
 have:=@aA F aY (.int 1)
 have:=@sK F _ (.ar .add .i64 aY (.int 1)) _ p7 (.ar .sub .i64 aY (.int 1)) _ _ _ _ _ _ _ _ _ rfl rfl rfl rfl rfl rfl rfl rfl rfl
 try simp only[ab]at *
 grind
def ahY:=fb Hd TP<|au fun F p0 p1=>by
 try simp only[ab,aj]at *
 obtain⟨a7,ea7,qa7⟩:=ah ((E.I F aY)+(1))
 omega
def aw1:=fb GO TP<|am fun F p0 p1 p2=>by
 have:=aw p0
 try simp only[ab,aj]at *
 obtain⟨a7,ea7,qa7⟩:=ah ((E.I F aY)+(1))
 omega
def atM:=fb OF acM<|am fun F p0 p1 p2=>by
 try simp only[ab,aj]at *
 obtain⟨a7,ea7,qa7⟩:=ah ((E.I F aY)+(1))
 omega
def aEE:=fb DL acM<|au fun F p0 p1=>by
 try simp only[ab,aj]at *
 obtain⟨a7,ea7,qa7⟩:=ah ((E.I F aY)+(1))
 omega
def dq:List Fa:=[BT,Kf,ay2,apQ,aGy,ay1,P4,aAQ,aG5,aqM,Zy,aBY,ank,apD,at5,apW,avU,aE4,ayj,asJ,ast,aoH,aBQ,au4,abA,ag0,VW,amU,aCm,aGX,aDt,av1,azR,agv,agX,ajb,aoX,ahY,aw1,atM,aEE]
theorem aht:aU Try.prog (bn (aGv)):=sc dq (aBR) Oa ([]) (by kernel_rfl) (by kernel_rfl)
def adn:Nl:=nc aht Oa
end
end Go.Proofs.Ytnnbmcfabojjjaa.payColours
