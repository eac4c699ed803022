/-
  PayHolds: contracts of functions, part 4.
-/
import Derived.Test.YtnnbmcfabojjjaaRows
import Derived.Test.YtnnbmcfabojjjaaNat
import Derived.WalkKit
import Derived.ProofKit
import Derived.OpenShut
import Derived.ChangeOld
import Derived.Below
import Derived.KernelRfl
import Derived.Lib.SmallJoins
import Derived.Laws.IdiomArrays
import Derived.Test.YtnnbmcfabojjjaaPayHoldsPartc
namespace Go.Proofs.Ytnnbmcfabojjjaa.payHolds
open Go.ChangeShapes Go.WideShapes Go.ChangeAt Go.RowKit
open Go.SX
open Go.SX.E (fn pr cmp var)
set_option linter.unusedVariables false
set_option linter.unusedSimpArgs false
set_option maxRecDepth 100000
noncomputable section
abbrev Y0:E:=var 4
abbrev Y1:E:=cmp .lss (.int 4) (fn 9 (pr Y0 (.int 2)))
abbrev Y2:E:=.bool false
abbrev Y3:E:=var 0
abbrev Y4:E:=var 1
abbrev Y5:E:=var 2
abbrev Y6:E:=var 3
abbrev Y7:E:=var 5
abbrev Y8:E:=pr Y6 (pr Y0 Y7)
abbrev Y9:E:=pr Y5 Y8
abbrev Y10:E:=pr Y4 Y9
abbrev Y11:E:=pr Y3 Y10
abbrev Ym:E:=fn 102 Y11
abbrev iG:E:=.iff Y2 Ym
abbrev Wk:E:=cmp .lss (.int 0) (fn 9 (pr Y0 (.int 2)))
abbrev KW:E:=cmp .lss Y6 (.int 0)
abbrev oO:E:=.not KW
abbrev zp:E:=.imp oO (cmp .eql (fn 9 (pr Y0 (.int 2))) (.int 0))
abbrev M0:E:=.not Y1
abbrev Kx:E:=cmp .lss (.int 1) Y6
abbrev Y20:E:=cmp .lss (.int 399) Y5
abbrev Jd:E:=cmp .lss Y5 (.int 0)
abbrev jJ:E:=.not Jd
abbrev Qb:E:=cmp .lss (.int 500) Y4
abbrev Tc:E:=cmp .lss Y4 (.int 1)
abbrev Y25:E:=cmp .lss (.int 1) Y3
abbrev Y26:E:=cmp .lss Y3 (.int 0)
abbrev Y27:E:=.not Y26
abbrev Y28:=[Y27]
abbrev Y29:List E:=(.not Y25)::Y28
abbrev Y30:List E:=(.not Tc)::Y29
abbrev Y31:List E:=(.not Qb)::Y30
abbrev Y32:=jJ::Y31
abbrev Y33:List E:=(.not Y20)::Y32
abbrev Ll:E:=cmp .lss Y6 (.int (-1))
abbrev vJ:E:=.imp Y7 oO
abbrev aP:E:=var 8
abbrev kJ:E:=cmp .lss aP (fn 9 (pr Y0 (.int 2)))
abbrev Y38:E:=cmp .lss (fn 1 (pr Y0 (fn 6 (pr (fn 8 (pr aP (.int 2))) (.int 0))))) (.int 0)
abbrev sP:E:=.not Y38
abbrev Xo:E:=cmp .lss (fn 1 (pr Y0 (fn 6 (pr (fn 8 (pr aP (.int 2))) (.int 1))))) (.int 0)
abbrev Ar:E:=.not Xo
abbrev DK:E:=cmp .lss (.int 1) (fn 1 (pr Y0 (fn 6 (pr (fn 8 (pr aP (.int 2))) (.int 1)))))
abbrev UB:E:=cmp .lss (.int 0) (fn 1 (pr Y0 (fn 6 (pr (fn 8 (pr aP (.int 2))) (.int 0)))))
abbrev Tn:E:=cmp .eql (fn 1 (pr Y0 (fn 6 (pr (fn 8 (pr aP (.int 2))) (.int 1))))) (.int 0)
abbrev Nk:E:=cmp .lss (.int 500) (fn 1 (pr Y0 (fn 6 (pr (fn 8 (pr aP (.int 2))) (.int 0)))))
abbrev ZK:E:=cmp .lss aP (.int 0)
abbrev q8:E:=.not ZK
abbrev Y48:List E:=(.not Ll)::Y33
abbrev Y49:List E:=(.not Kx)::Y48
abbrev Y50:=M0::Y49
abbrev mP:=[q8]
abbrev Y52:E:=pr Y0 aP
abbrev Sj:E:=fn 101 Y52
abbrev Y54:=[M0]
abbrev Gu:=q8::Y54
abbrev Y56:E:=cmp .lss (.ar .add .i64 aP (.int 1)) (.int 0)
abbrev Hg:E:=.not Y56
abbrev Y58:=Sj::Gu
abbrev Qi:List E:=(.not Nk)::Y58
abbrev Y60:E:=pr Y0 (.ar .add .i64 aP (.int 1))
abbrev Uq:E:=fn 101 Y60
abbrev na:E:=cmp .lss aP (fn 0 Y3)
abbrev Y63:E:=cmp .lss (.int 1000) (fn 0 Y3)
abbrev Y64:E:=.not Y63
abbrev Y65:=[Y64]
abbrev Y66:=q8::Y65
abbrev Y67:=na::Y66
abbrev jX:E:=var 9
abbrev NP:E:=cmp .eql jX (fn 131 (pr Y3 (pr Y4 aP)))
abbrev Y70:E:=cmp .lss aP jX
abbrev LN:E:=.not Y70
abbrev UZ:E:=cmp .eql (fn 1 (pr Y3 aP)) Y4
abbrev Y73:E:=cmp .lss jX (.int 0)
abbrev Y74:E:=.not Y73
abbrev Y75:=NP::Y66
abbrev Y76:=Y74::Y75
abbrev Ki:=LN::Y76
abbrev Y78:=na::Ki
abbrev BD:E:=cmp .lss aP (fn 9 (pr (fn 1 (pr Y3 (.int 0))) (.int 12)))
abbrev VH:E:=cmp .eql (fn 1 (pr (fn 1 (pr Y3 (.int 0))) (fn 6 (pr (fn 8 (pr aP (.int 12))) (.int 0))))) Y4
abbrev GN:E:=cmp .eql (fn 120 (pr Y3 (pr Y4 aP))) (.int (-1))
abbrev l8:E:=fn 117 Y3
abbrev DT:=BD::mP
abbrev gx:=[l8]
abbrev Y85:E:=cmp .eql Y4 (.int 0)
abbrev Y86:E:=cmp .lss (fn 0 (fn 1 (pr Y3 (.int 6)))) Y6
abbrev Y87:E:=.not Y86
abbrev Y88:E:=cmp .eql Y6 (fn 121 (pr (fn 1 (pr Y3 (.int 6))) Y5))
abbrev Y89:E:=cmp .lss (fn 0 (fn 1 (pr Y3 (.int 7)))) Y0
abbrev Y90:E:=.not Y89
abbrev Cb:E:=.not (cmp .lss Y0 (.int 0))
abbrev Y92:E:=cmp .eql Y0 (fn 121 (pr (fn 1 (pr Y3 (.int 7))) Y5))
abbrev Y93:E:=cmp .lss (fn 0 (fn 1 (pr Y3 (.int 8)))) Y7
abbrev Y94:E:=.not Y93
abbrev YN:E:=cmp .lss Y7 (.int 0)
abbrev lU:E:=.not YN
abbrev Y97:E:=cmp .eql Y7 (fn 121 (pr (fn 1 (pr Y3 (.int 8))) Y5))
abbrev dO:E:=var 6
abbrev Y99:E:=cmp .lss (fn 0 (fn 1 (pr Y3 (.int 9)))) dO
abbrev arq:E:=.not Y99
abbrev Sh:E:=cmp .lss dO (.int 0)
abbrev oJ:E:=.not Sh
abbrev ai1:E:=cmp .eql dO (fn 121 (pr (fn 1 (pr Y3 (.int 9))) Y5))
abbrev apy:=ai1::gx
abbrev avd:=oJ::apy
abbrev aCZ:=arq::avd
abbrev aCt:=Y97::aCZ
abbrev al7:=lU::aCt
abbrev aHY:=Y94::al7
abbrev ayN:=Y92::aHY
abbrev aHL:=Cb::ayN
abbrev aw1:=Y90::aHL
abbrev apB:=Y88::aw1
abbrev alL:=oO::apB
abbrev IR:=Y87::alL
abbrev SP:E:=cmp .eql (.ar .add .i64 (.ar .add .i64 (.ar .add .i64 (.ar .add .i64 (.int 0) Y6) Y0) Y7) dO) (fn 6 (pr (fn 132 (pr Y3 (pr Y4 (pr (.int 4) Y5)))) (fn 133 (pr Y3 (pr Y4 (pr Y5 (.int 0)))))))
abbrev aHs:E:=cmp .lss (fn 0 (fn 1 (pr Y3 (.int 20)))) Y6
abbrev Tt:E:=.not aHs
abbrev afp:E:=cmp .eql Y6 (fn 121 (pr (fn 1 (pr Y3 (.int 20))) Y5))
abbrev aFP:E:=cmp .lss (fn 0 (fn 1 (pr Y3 (.int 21)))) Y0
abbrev T6:E:=.not aFP
abbrev afW:E:=cmp .eql Y0 (fn 121 (pr (fn 1 (pr Y3 (.int 21))) Y5))
abbrev aoN:E:=cmp .lss (fn 0 (fn 1 (pr Y3 (.int 22)))) Y7
abbrev Re:E:=.not aoN
abbrev YH:E:=cmp .eql Y7 (fn 121 (pr (fn 1 (pr Y3 (.int 22))) Y5))
abbrev aA3:E:=cmp .lss (fn 0 (fn 1 (pr Y3 (.int 23)))) dO
abbrev PW:E:=.not aA3
abbrev Ov:E:=cmp .eql dO (fn 121 (pr (fn 1 (pr Y3 (.int 23))) Y5))
abbrev S7:E:=cmp .lss Y4 (.int 0)
abbrev BL:E:=.not S7
abbrev awz:E:=cmp .lss (.ar .add .i64 (.ar .add .i64 (.ar .add .i64 (.ar .add .i64 (.int 0) Y6) Y0) Y7) dO) (.int 0)
abbrev RW:E:=.not awz
abbrev anY:=PW::oJ::Ov::gx
abbrev aCJ:=YH::anY
abbrev axa:=lU::aCJ
abbrev ax1:=Re::axa
abbrev amN:=afW::ax1
abbrev an1:=Cb::amN
abbrev asr:=T6::an1
abbrev aAJ:=afp::asr
abbrev aIk:=oO::aAJ
abbrev agr:=Tt::aIk
abbrev auQ:E:=cmp .lss (.int 160) (.ar .add .i64 (.ar .add .i64 (.ar .add .i64 (.ar .add .i64 (.int 0) Y6) Y0) Y7) dO)
abbrev af6:E:=.not auQ
abbrev bw:E:=var 16
abbrev iC:E:=cmp .lss bw (fn 9 (pr (fn 1 (pr Y3 (.int 29))) (.int 5)))
abbrev ak9:E:=cmp .lss bw (.int 0)
abbrev Vc:E:=.not ak9
abbrev Hy:=[Vc]
abbrev ar7:=iC::Hy
abbrev Dr:=l8::ar7
abbrev Bg:E:=.not iC
abbrev fA:E:=var 17
abbrev Lc:E:=cmp .eql fA (fn 6 (pr (fn 132 (pr Y3 (pr Y4 (pr (.int 4) Y5)))) (fn 133 (pr Y3 (pr Y4 (pr Y5 bw))))))
abbrev awU:E:=cmp .lss (fn 9 (pr (fn 1 (pr Y3 (.int 29))) (.int 5))) bw
abbrev HU:E:=.not awU
abbrev aCO:E:=cmp .lss (fn 6 (pr (.int 160) bw)) fA
abbrev HB:E:=.not aCO
abbrev ac6:E:=cmp .eql (fn 1 (pr (fn 1 (pr Y3 (.int 29))) (fn 6 (pr (fn 8 (pr bw (.int 5))) (.int 3))))) (.int (-1))
abbrev ach:E:=cmp .eql (fn 1 (pr (fn 1 (pr Y3 (.int 29))) (fn 6 (pr (fn 8 (pr bw (.int 5))) (.int 1))))) Y5
abbrev acf:E:=cmp .eql (fn 1 (pr (fn 1 (pr Y3 (.int 29))) (fn 6 (pr (fn 8 (pr bw (.int 5))) (.int 0))))) Y4
abbrev anR:E:=cmp .lss fA (.int 0)
abbrev Pl:E:=.not anR
abbrev yU:=Lc::Vc::gx
abbrev aHv:=Pl::yU
abbrev aam:=HB::aHv
abbrev H3:E:=cmp .eql fA (fn 6 (pr (fn 132 (pr Y3 (pr Y4 (pr (.int 4) Y5)))) (fn 133 (pr Y3 (pr Y4 (pr Y5 (.ar .add .i64 bw (.int 1))))))))
abbrev Yj:=iC::aam
abbrev aja:E:=cmp .lss (.ar .add .i64 fA (.int 1)) (.int 0)
abbrev SO:E:=.not aja
abbrev i6:E:=.not (cmp .lss Y3 (.int 1))
abbrev jk:E:=.not (cmp .lss Y4 (.int (-1)))
abbrev acn:E:=cmp .lss (.int 1) Y5
abbrev gS:E:=var 7
abbrev aom:E:=pr gS aP
abbrev apS:E:=pr dO aom
abbrev aCN:E:=pr Y7 apS
abbrev aER:E:=pr Y0 aCN
abbrev ave:E:=pr Y6 aER
abbrev azW:E:=pr Y5 ave
abbrev avj:E:=pr Y4 azW
abbrev aCs:E:=pr Y3 avj
abbrev Pe:E:=fn 137 aCs
abbrev kN:E:=.iff Y2 Pe
abbrev lE:E:=.not acn
abbrev mw:E:=cmp .eql Y6 (.int 0)
abbrev nd:E:=cmp .eql Y0 (.int 0)
abbrev as0:E:=cmp .lss (.int 500) Y3
abbrev Ld:E:=.not as0
abbrev LZ:E:=cmp .lss (.int 399) Y4
abbrev afO:=[Ld,(.not LZ)]
abbrev aaY:E:=cmp .lss gS (.int 0)
abbrev Cw:E:=.not aaY
abbrev VK:E:=cmp .lss (.int 99) Y7
abbrev ZF:E:=cmp .lss (.int 99) dO
abbrev aft:E:=cmp .lss (.int 99) gS
abbrev aA6:List E:=[(.not ZF),(.not aft)]
abbrev aan:List E:=(.not VK)::aA6
abbrev ahm:E:=cmp .lss (.int 99) aP
abbrev anl:E:=.not ahm
abbrev Vw:E:=.iff anl Pe
abbrev ub:E:=cmp .lss (fn 1 (pr (fn 1 (pr Y3 (.int 29))) (fn 6 (pr (fn 8 (pr bw (.int 5))) (.int 3))))) (.int 0)
abbrev vM:E:=var 18
abbrev JX:E:=cmp .eql vM (fn 120 (pr Y3 (pr (fn 1 (pr (fn 1 (pr Y3 (.int 29))) (fn 6 (pr (fn 8 (pr bw (.int 5))) (.int 1))))) (fn 9 (pr (fn 1 (pr Y3 (.int 0))) (.int 12))))))
abbrev afB:E:=cmp .eql (fn 1 (pr (fn 1 (pr Y3 (.int 0))) (fn 6 (pr (fn 8 (pr vM (.int 12))) (.int 1))))) (fn 1 (pr (fn 1 (pr Y3 (.int 29))) (fn 6 (pr (fn 8 (pr bw (.int 5))) (.int 2)))))
abbrev afC:E:=fn 123 (pr Y3 bw)
abbrev LF:=afC::Hy
abbrev ue:E:=.iff Y2 (fn 125 Y3)
abbrev PP:E:=cmp .lss vM (.int 0)
abbrev Ta:E:=cmp .eql fA (fn 6 (pr (fn 134 (pr Y3 (.int 8))) (fn 135 (pr Y3 bw))))
abbrev Zs:=[HU]
abbrev Px:E:=fn 123 (pr Y3 (fn 9 (pr (fn 1 (pr Y3 (.int 29))) (.int 5))))
abbrev Nj:=Ta::Hy
abbrev auF:E:=cmp .lss (fn 6 (pr (.int 320) bw)) fA
abbrev Zl:E:=.not auF
abbrev al3:=Pl::Nj
abbrev akZ:=Zl::al3
abbrev acv:=l8::akZ
abbrev agB:=iC::acv
abbrev bm:E:=var 24
abbrev oE:E:=cmp .lss bm (fn 9 (pr (fn 1 (pr Y3 (.int 0))) (.int 12)))
abbrev xJ:E:=cmp .lss (.int 0) bm
abbrev CJ:=[oE,xJ]
abbrev LK:=l8::CJ
abbrev oB:E:=var 26
abbrev qj:E:=.iff oB (fn 137 (pr (fn 1 (pr (fn 1 (pr Y3 (.int 0))) (fn 6 (pr (fn 8 (pr bm (.int 12))) (.int 0))))) (pr (fn 1 (pr (fn 1 (pr Y3 (.int 0))) (fn 6 (pr (fn 8 (pr bm (.int 12))) (.int 1))))) (pr (fn 1 (pr (fn 1 (pr Y3 (.int 0))) (fn 6 (pr (fn 8 (pr bm (.int 12))) (.int 2))))) (pr (fn 1 (pr (fn 1 (pr Y3 (.int 0))) (fn 6 (pr (fn 8 (pr bm (.int 12))) (.int 3))))) (pr (fn 1 (pr (fn 1 (pr Y3 (.int 0))) (fn 6 (pr (fn 8 (pr bm (.int 12))) (.int 4))))) (pr (fn 1 (pr (fn 1 (pr Y3 (.int 0))) (fn 6 (pr (fn 8 (pr bm (.int 12))) (.int 5))))) (pr (fn 1 (pr (fn 1 (pr Y3 (.int 0))) (fn 6 (pr (fn 8 (pr bm (.int 12))) (.int 6))))) (pr (fn 1 (pr (fn 1 (pr Y3 (.int 0))) (fn 6 (pr (fn 8 (pr bm (.int 12))) (.int 7))))) (fn 1 (pr (fn 1 (pr Y3 (.int 0))) (fn 6 (pr (fn 8 (pr bm (.int 12))) (.int 8))))))))))))))
abbrev Hh:E:=fn 124 (pr Y3 bm)
abbrev agq:=l8::LF
abbrev WS:E:=fn 123 (pr Y3 (.ar .add .i64 bw (.int 1)))
abbrev I8:E:=.not xJ
abbrev Be:E:=cmp .eql (var 27) (fn 122 (pr Y3 (pr (fn 1 (pr (fn 1 (pr Y3 (.int 0))) (fn 6 (pr (fn 8 (pr bm (.int 12))) (.int 2))))) (fn 1 (pr (fn 1 (pr Y3 (.int 0))) (fn 6 (pr (fn 8 (pr bm (.int 12))) (.int 0))))))))
abbrev Cn:E:=cmp .eql (var 27) (.int 1)
abbrev aii:E:=cmp .lss bm (.int 0)
abbrev Qp:E:=.not aii
abbrev aay:=[Qp]
abbrev aeC:=Hh::aay
abbrev M8:=I8::aay
abbrev amp:E:=cmp .lss (.ar .add .i64 bm (.int 1)) (.int 0)
abbrev aeH:E:=.not amp
abbrev JU:E:=cmp .lss (fn 1 (pr (fn 1 (pr Y3 (.int 0))) (fn 6 (pr (fn 8 (pr (.ar .sub .i64 bm (.int 1)) (.int 12))) (.int 0))))) (fn 1 (pr (fn 1 (pr Y3 (.int 0))) (fn 6 (pr (fn 8 (pr bm (.int 12))) (.int 0)))))
abbrev ahv:=Qp::gx
abbrev B3:=Hh::ahv
abbrev abX:=oE::M8
abbrev aDf:E:=cmp .lss (fn 9 (pr (fn 1 (pr Y3 (.int 0))) (.int 12))) (.ar .add .i64 bm (.int 1))
abbrev acZ:E:=.not aDf
abbrev auv:E:=pr Y3 (.ar .add .i64 bm (.int 1))
abbrev ahf:E:=fn 124 auv
abbrev abm:E:=cmp .lss (fn 7 (pr (fn 9 (pr (fn 1 (pr Y3 (.int 0))) (.int 12))) (.ar .add .i64 bm (.int 1)))) (fn 7 (pr (fn 9 (pr (fn 1 (pr Y3 (.int 0))) (.int 12))) bm))
abbrev azi:E:=cmp .lss (fn 7 (pr (fn 9 (pr (fn 1 (pr Y3 (.int 0))) (.int 12))) (.ar .add .i64 bm (.int 1)))) (.int 0)
abbrev Yb:E:=.not azi
def aEU:=fb ([Y1]) iG<|aB fun F p0=>by
 have:=(@dL F Y6 Y4 Y3 Y7 Y5 Y0)
 try simp only[aa]at *
 grind
def awF:=fb ([(.not Wk)]) zp<|aB fun F p0=>by
 have:=oq F (pr Y0 (.int 2))
 try simp only[aa]at *
 grind
def aik:=fb (oO::Wk::M0::(.not Kx)::Y33) iG<|iD fun F p0 p1 p2 p3 p4 p5 p6 p7 p8 p9=>by
 have:=(@dL F Y6 Y4 Y3 Y7 Y5 Y0)
 try simp only[aa]at *
 grind
def aH4:=fb ([KW,Y7]) iG<|ax fun F p0 p1=>by
 have:=(@dL F Y6 Y4 Y3 Y7 Y5 Y0)
 try simp only[aa]at *
 grind
def aIi:=fb ([KW,(.not Ll)]) zp<|ax fun F p0 p1=>by
 simp_all
def aiu:=fb ([Kx]) iG<|aB fun F p0=>by
 have:=(@dL F Y6 Y4 Y3 Y7 Y5 Y0)
 try simp only[aa]at *
 grind
def aks:=fb ([Ll]) iG<|aB fun F p0=>by
 have:=(@dL F Y6 Y4 Y3 Y7 Y5 Y0)
 try simp only[aa]at *
 grind
def aHI:=fb ([Y20]) iG<|aB fun F p0=>by
 have:=(@dL F Y6 Y4 Y3 Y7 Y5 Y0)
 try simp only[aa]at *
 grind
def aEQ:=fb ([Jd]) iG<|aB fun F p0=>by
 have:=(@dL F Y6 Y4 Y3 Y7 Y5 Y0)
 try simp only[aa]at *
 grind
def awm:=fb ([Qb]) iG<|aB fun F p0=>by
 have:=(@dL F Y6 Y4 Y3 Y7 Y5 Y0)
 try simp only[aa]at *
 grind
def asU:=fb ([Tc]) iG<|aB fun F p0=>by
 have:=(@dL F Y6 Y4 Y3 Y7 Y5 Y0)
 try simp only[aa]at *
 grind
def aDJ:=fb ([Y25]) iG<|aB fun F p0=>by
 have:=(@dL F Y6 Y4 Y3 Y7 Y5 Y0)
 try simp only[aa]at *
 grind
def alJ:=fb ([oO]) vJ<|aB fun F p0=>by
 simp_all
def aDN:=fb ([(.not Y7)]) vJ<|aB fun F p0=>by
 simp_all
def arO:=fa ((fn 101 (pr Y0 (.int 0))))<|fun F=>by
 rfl
def avI:=fb (kJ::sP::Ar::(.not DK)::UB::(.not Tn)::(.not Nk)::q8::vJ::Y50) iG<|yR fun F p0 p1 p2 p3 p4 p5 p6 p7 p8 p9 aj ak ao aq av az aG ap=>by
 have:=(@dL F Y6 Y4 Y3 Y7 Y5 Y0)
 have:=fun h0 h1=>@mj F _ _ (fn 9 (pr Y0 (.int 2))) h0 h1 (fn 1 _) (fn 1 (pr Y0 (fn 6 (pr (fn 8 (pr aP _)) _)))) rfl rfl
 try simp only[aa]at *
 grind
def aFc:=fb ([zp]) zp<|aB fun F p0=>by
 omega
def atr:=fb (kJ::sP::Ar::DK::mP) iG<|aR fun F p0 p1 p2 p3 p4=>by
 have:=(@dL F Y6 Y4 Y3 Y7 Y5 Y0)
 have:=fun h0 h1=>@mj F _ _ (fn 9 (pr Y0 (.int 2))) h0 h1 _ (fn 1 (pr Y0 (fn 6 (pr (fn 8 (pr aP _)) _)))) rfl rfl
 try simp only[aa]at *
 grind
def alu:=fb (kJ::sP::Xo::mP) iG<|aH fun F p0 p1 p2 p3=>by
 have:=(@dL F Y6 Y4 Y3 Y7 Y5 Y0)
 have:=fun h0 h1=>@mj F _ _ (fn 9 (pr Y0 (.int 2))) h0 h1 _ (fn 1 (pr Y0 (fn 6 (pr (fn 8 (pr aP _)) _)))) rfl rfl
 try simp only[aa]at *
 grind
def ax2:=fb (kJ::sP::Nk::mP) iG<|aH fun F p0 p1 p2 p3=>by
 have:=(@dL F Y6 Y4 Y3 Y7 Y5 Y0)
 have:=fun h0 h1=>@mj F _ _ (fn 9 (pr Y0 (.int 2))) h0 h1 (fn 1 _) (fn 1 (pr Y0 (fn 6 (pr (fn 8 (pr aP _)) _)))) rfl rfl
 try simp only[aa]at *
 grind
def aHl:=fb (kJ::Y38::mP) iG<|am fun F p0 p1 p2=>by
 have:=(@dL F Y6 Y4 Y3 Y7 Y5 Y0)
 have:=fun h0 h1=>@mj F _ _ (fn 9 (pr Y0 (.int 2))) h0 h1 (fn 1 _) (fn 1 (pr Y0 (fn 6 (pr (fn 8 (pr aP _)) _)))) rfl rfl
 try simp only[aa]at *
 grind
def akB:=fb ((.not kJ)::Sj::vJ::zp::Y50) (.iff (.bool true) Ym)<|iN fun F p0 p1 p2 p3 p4 p5 p6 p7 p8 p9 aj ak ao=>by
 have:=(@dL F Y6 Y4 Y3 Y7 Y5 Y0)
 have:=fun h1=>@agk F _ _ (fn 9 (pr Y0 (.int 2))) p1 h1
 try simp only[aa]at *
 grind
def avi:=fb ([vJ]) vJ<|aB fun F p0=>by
 omega
def alV:=fb (kJ::Gu) Hg<|am fun F p0 p1 p2=>by
 try simp only[aa,ae]at *
 obtain⟨a3,ea3,qa3⟩:=ab ((E.I F aP)+(1))
 omega
def aDY:=fb (kJ::mP) (.not (cmp .lss (fn 9 (pr Y0 (.int 2))) (.ar .add .i64 aP (.int 1))))<|ax fun F p0 p1=>by
 try simp only[aa,ae]at *
 obtain⟨a3,ea3,qa3⟩:=ab ((E.I F aP)+(1))
 omega
def aCW:=fb (kJ::sP::Ar::(.not DK)::Tn::Qi) Uq<|eB fun F p0 p1 p2 p3 p4 p5 p6 p7 p8=>by
 have:=@aM F aP (.int 1)
 have:=fun h0 hm=>@F8 F _ (.ar .add .i64 aP (.int 1)) _ p6 h0 hm (fn 1 _) (fn 1 _) rfl rfl
 try simp only[aa]at *
 grind
def apD:=fb (kJ::sP::Ar::(.not DK)::(.not UB)::Qi) Uq<|eB fun F p0 p1 p2 p3 p4 p5 p6 p7 p8=>by
 have:=@aM F aP (.int 1)
 have:=fun h0 hm=>@F8 F _ (.ar .add .i64 aP (.int 1)) _ p6 h0 hm (fn 1 _) (fn 1 _) rfl rfl
 try simp only[aa]at *
 grind
def atT:=fb (kJ::Gu) (cmp .lss (fn 7 (pr (fn 9 (pr Y0 (.int 2))) (.ar .add .i64 aP (.int 1)))) (fn 7 (pr (fn 9 (pr Y0 (.int 2))) aP)))<|am fun F p0 p1 p2=>by
 try simp only[aa,ae]at *
 obtain⟨a3,ea3,qa3⟩:=ab ((E.I F aP)+(1))
 omega
def aqz:=fb (kJ::mP) (.not (cmp .lss (fn 7 (pr (fn 9 (pr Y0 (.int 2))) (.ar .add .i64 aP (.int 1)))) (.int 0)))<|ax fun F p0 p1=>by
 try simp only[aa,ae]at *
 obtain⟨a3,ea3,qa3⟩:=ab ((E.I F aP)+(1))
 omega
def aD:List Fa:=[aEU,awF,aik,aH4,aIi,aiu,aks,aHI,aEQ,awm,asU,aDJ,OP,alJ,aDN,arO,avI,aFc,atr,alu,ax2,aHl,akB,avi,alV,aDY,aCW,apD,atT,aqz]
theorem asm:aW Try.prog (bu (ahH)):=sc aD (akt) afV ([]) (by kernel_rfl) (by kernel_rfl)
def Ry:Nl:=nc asm afV
def aFe:=fb Y67 Hg<|am fun F p0 p1 p2=>by
 try simp only[aa,ae]at *
 obtain⟨a4,ea4,qa4⟩:=ab ((E.I F aP)+(1))
 omega
def am0:=fb ([(.not na),NP]) (cmp .eql jX (fn 121 (pr Y3 Y4)))<|ax fun F p0 p1=>by
 have:=@awg F Y3 Y4 aP
 try simp only[aa]at *
 grind
def aEX:=fb (na::mP) (.not (cmp .lss (fn 0 Y3) (.ar .add .i64 aP (.int 1))))<|ax fun F p0 p1=>by
 try simp only[aa,ae]at *
 obtain⟨a4,ea4,qa4⟩:=ab ((E.I F aP)+(1))
 omega
def aGy:=fb ([(.not na),LN,NP,(.not (cmp .lss (fn 0 Y3) aP))]) (.not (cmp .lss (fn 0 Y3) jX))<|aH fun F p0 p1 p2 p3=>by
 try simp only[aa]at *
 omega
def apl:=fb (na::UZ::Ki) (cmp .eql (.ar .add .i64 jX (.int 1)) (fn 131 (pr Y3 (pr Y4 (.ar .add .i64 aP (.int 1))))))<|de fun F p0 p1 p2 p3 p4 p5 p6=>by
 have:=@aM F aP (.int 1)
 have:=@HH F Y3 Y4 aP (.ar .add .i64 aP (.int 1))
 try simp only[aa,ae]at *
 obtain⟨a7,ea7,qa7⟩:=ab ((E.I F jX)+(1))
 omega
def arV:=fb (na::(.not UZ)::Ki) (cmp .eql jX (fn 131 (pr Y3 (pr Y4 (.ar .add .i64 aP (.int 1))))))<|de fun F p0 p1 p2 p3 p4 p5 p6=>by
 have:=@aM F aP (.int 1)
 have:=@HH F Y3 Y4 aP (.ar .add .i64 aP (.int 1))
 try simp only[aa]at *
 grind
def am5:=fb Y78 (.not (cmp .lss (.ar .add .i64 jX (.int 1)) (.int 0)))<|cr fun F p0 p1 p2 p3 p4 p5=>by
 try simp only[aa,ae]at *
 obtain⟨a4,ea4,qa4⟩:=ab ((E.I F jX)+(1))
 omega
def aDy:=fb (na::LN::Y75) (.not (cmp .lss (.ar .add .i64 aP (.int 1)) jX))<|aR fun F p0 p1 p2 p3 p4=>by
 try simp only[aa,ae]at *
 obtain⟨a4,ea4,qa4⟩:=ab ((E.I F aP)+(1))
 omega
def aiU:=fb Y78 (.not (cmp .lss (.ar .add .i64 aP (.int 1)) (.ar .add .i64 jX (.int 1))))<|cr fun F p0 p1 p2 p3 p4 p5=>by
 try simp only[aa,ae]at *
 obtain⟨a4,ea4,qa4⟩:=ab ((E.I F aP)+(1))
 obtain⟨a5,ea5,qa5⟩:=ab ((E.I F jX)+(1))
 omega
def aoq:=fb Y67 (cmp .lss (fn 7 (pr (fn 0 Y3) (.ar .add .i64 aP (.int 1)))) (fn 7 (pr (fn 0 Y3) aP)))<|am fun F p0 p1 p2=>by
 try simp only[aa,ae]at *
 obtain⟨a4,ea4,qa4⟩:=ab ((E.I F aP)+(1))
 omega
def ajh:=fb (na::mP) (.not (cmp .lss (fn 7 (pr (fn 0 Y3) (.ar .add .i64 aP (.int 1)))) (.int 0)))<|ax fun F p0 p1=>by
 try simp only[aa,ae]at *
 obtain⟨a4,ea4,qa4⟩:=ab ((E.I F aP)+(1))
 omega
def aE:List Fa:=[QU,aFe,am0,aEX,aGy,apl,arV,am5,aDy,aiU,aoq,ajh]
theorem anM:aW Try.prog (bu (aDX)):=sc aE (arS) Ry ([]) (by kernel_rfl) (by kernel_rfl)
def Qx:Nl:=nc anM Ry
def amw:=fa ((cmp .eql (fn 120 (pr Y3 (pr Y4 (.int 0)))) (.int (-1))))<|fun F=>by
 rfl
def aEw:=fb (BD::VH::GN::mP) (cmp .eql aP (fn 120 (pr Y3 (pr Y4 (fn 9 (pr (fn 1 (pr Y3 (.int 0))) (.int 12)))))))<|aH fun F p0 p1 p2 p3=>by
 have:=fun h=>@UD F Y4 _ (fn 6 (pr aP (.int 1))) _ (fn 9 (pr (fn 1 (pr Y3 (.int 0))) (.int 12))) h (fn 1 (pr (fn 1 (pr Y3 _)) (fn 6 (pr (fn 8 (pr aP _)) _)))) rfl
 try simp only[aa]at *
 grind
def aCl:=fb (l8::DT) Hg<|am fun F p0 p1 p2=>by
 have:=aC p0
 try simp only[aa,ae]at *
 obtain⟨a3,ea3,qa3⟩:=ab ((E.I F aP)+(1))
 omega
def awX:=fb ([(.not BD),GN,(.not (cmp .lss (fn 9 (pr (fn 1 (pr Y3 (.int 0))) (.int 12))) aP))]) (cmp .eql (fn 120 (pr Y3 (pr Y4 (fn 9 (pr (fn 1 (pr Y3 (.int 0))) (.int 12)))))) (.int (-1)))<|am fun F p0 p1 p2=>by
 have:=@aip F Y4 aP (fn 9 (pr (fn 1 (pr Y3 (.int 0))) (.int 12))) Y3
 try simp only[aa]at *
 grind
def ath:=fb DT (.not (cmp .lss (fn 9 (pr (fn 1 (pr Y3 (.int 0))) (.int 12))) (.ar .add .i64 aP (.int 1))))<|ax fun F p0 p1=>by
 try simp only[aa,ae]at *
 obtain⟨a3,ea3,qa3⟩:=ab ((E.I F aP)+(1))
 omega
def ald:=fb (BD::(.not VH)::GN::q8::gx) (cmp .eql (fn 120 (pr Y3 (pr Y4 (.ar .add .i64 aP (.int 1))))) (.int (-1)))<|aR fun F p0 p1 p2 p3 p4=>by
 have:=aC p4
 have:=@aM F aP (.int 1)
 have:=fun h=>@UD F Y4 _ (.ar .add .i64 aP (.int 1)) _ (fn 9 (pr (fn 1 (pr Y3 (.int 0))) (.int 12))) h (fn 1 (pr (fn 1 (pr Y3 _)) (fn 6 (pr (fn 8 (pr aP _)) _)))) rfl
 try simp only[aa]at *
 grind
def am6:=fb (l8::DT) (cmp .lss (fn 7 (pr (fn 9 (pr (fn 1 (pr Y3 (.int 0))) (.int 12))) (.ar .add .i64 aP (.int 1)))) (fn 7 (pr (fn 9 (pr (fn 1 (pr Y3 (.int 0))) (.int 12))) aP)))<|am fun F p0 p1 p2=>by
 have:=aC p0
 try simp only[aa,ae]at *
 obtain⟨a3,ea3,qa3⟩:=ab ((E.I F aP)+(1))
 omega
def aoU:=fb DT (.not (cmp .lss (fn 7 (pr (fn 9 (pr (fn 1 (pr Y3 (.int 0))) (.int 12))) (.ar .add .i64 aP (.int 1)))) (.int 0)))<|ax fun F p0 p1=>by
 try simp only[aa,ae]at *
 obtain⟨a3,ea3,qa3⟩:=ab ((E.I F aP)+(1))
 omega
def aO:List Fa:=[M4,amw,aEw,aCl,awX,ath,ald,am6,aoU]
theorem aHy:aW Try.prog (bu (aC8)):=sc aO (av8) Qx ([]) (by kernel_rfl) (by kernel_rfl)
def agb:Nl:=nc aHy Qx
def amc:=fb gx (.not (cmp .lss (.int 1000) (fn 0 (fn 1 (pr Y3 (.int 6))))))<|aB fun F p0=>by
 have:=aC p0
 try simp only[aa]at *
 omega
def ai2:=fb gx (.not (cmp .lss (.int 1000) (fn 0 (fn 1 (pr Y3 (.int 20))))))<|aB fun F p0=>by
 have:=aC p0
 try simp only[aa]at *
 omega
def akS:=fb gx (.not (cmp .lss (.int 1000) (fn 0 (fn 1 (pr Y3 (.int 7))))))<|aB fun F p0=>by
 have:=aC p0
 try simp only[aa]at *
 omega
def ahE:=fb gx (.not (cmp .lss (.int 1000) (fn 0 (fn 1 (pr Y3 (.int 21))))))<|aB fun F p0=>by
 have:=aC p0
 try simp only[aa]at *
 omega
def XP:=fb gx (.not (cmp .lss (.int 1000) (fn 0 (fn 1 (pr Y3 (.int 8))))))<|aB fun F p0=>by
 have:=aC p0
 try simp only[aa]at *
 omega
def Zr:=fb gx (.not (cmp .lss (.int 1000) (fn 0 (fn 1 (pr Y3 (.int 22))))))<|aB fun F p0=>by
 have:=aC p0
 try simp only[aa]at *
 omega
def awE:=fb gx (.not (cmp .lss (.int 1000) (fn 0 (fn 1 (pr Y3 (.int 9))))))<|aB fun F p0=>by
 have:=aC p0
 try simp only[aa]at *
 omega
def aB9:=fb gx (.not (cmp .lss (.int 1000) (fn 0 (fn 1 (pr Y3 (.int 23))))))<|aB fun F p0=>by
 have:=aC p0
 try simp only[aa]at *
 omega
def ann:=fb (Y85::IR) SP<|rX fun F p0 p1 p2 p3 p4 p5 p6 p7 p8 p9 aj ak ao aq=>by
 have:=aC aq
 have:=@ari F Y5 Y4 Y3
 have:=@aa6 F Y5 Y4 Y3 (.int 0)
 try simp only[aa,ae]at *
 obtain⟨a15,ea15,qa15⟩:=ab ((0)+(E.I F Y6))
 try simp only[ea15]at *
 obtain⟨a16,ea16,qa16⟩:=ab (a15+(E.I F Y0))
 try simp only[ea16]at *
 obtain⟨a17,ea17,qa17⟩:=ab (a16+(E.I F Y7))
 try simp only[ea17]at *
 obtain⟨a18,ea18,qa18⟩:=ab (a17+(E.I F dO))
 omega
def aIf:=fb ((.not Y85)::Tt::oO::afp::T6::Cb::afW::Re::lU::YH::PW::oJ::Ov::(.not (cmp .lss (.int 1) Y4))::BL::gx) SP<|nO fun F p0 p1 p2 p3 p4 p5 p6 p7 p8 p9 aj ak ao aq av az=>by
 have:=aC az
 have:=@amm F Y5 Y4 Y3
 have:=@aa6 F Y5 Y4 Y3 (.int 0)
 try simp only[aa,ae]at *
 obtain⟨a15,ea15,qa15⟩:=ab ((0)+(E.I F Y6))
 try simp only[ea15]at *
 obtain⟨a16,ea16,qa16⟩:=ab (a15+(E.I F Y0))
 try simp only[ea16]at *
 obtain⟨a17,ea17,qa17⟩:=ab (a16+(E.I F Y7))
 try simp only[ea17]at *
 obtain⟨a18,ea18,qa18⟩:=ab (a17+(E.I F dO))
 omega
def ahS:=fb IR RW<|iN fun F p0 p1 p2 p3 p4 p5 p6 p7 p8 p9 aj ak ao=>by
 have:=aC ao
 try simp only[aa,ae]at *
 obtain⟨a12,ea12,qa12⟩:=ab ((0)+(E.I F Y6))
 try simp only[ea12]at *
 obtain⟨a13,ea13,qa13⟩:=ab (a12+(E.I F Y0))
 try simp only[ea13]at *
 obtain⟨a14,ea14,qa14⟩:=ab (a13+(E.I F Y7))
 try simp only[ea14]at *
 obtain⟨a15,ea15,qa15⟩:=ab (a14+(E.I F dO))
 omega
def anA:=fb agr RW<|iN fun F p0 p1 p2 p3 p4 p5 p6 p7 p8 p9 aj ak ao=>by
 have:=aC ao
 try simp only[aa,ae]at *
 obtain⟨a12,ea12,qa12⟩:=ab ((0)+(E.I F Y6))
 try simp only[ea12]at *
 obtain⟨a13,ea13,qa13⟩:=ab (a12+(E.I F Y0))
 try simp only[ea13]at *
 obtain⟨a14,ea14,qa14⟩:=ab (a13+(E.I F Y7))
 try simp only[ea14]at *
 obtain⟨a15,ea15,qa15⟩:=ab (a14+(E.I F dO))
 omega
def at7:=fb IR af6<|iN fun F p0 p1 p2 p3 p4 p5 p6 p7 p8 p9 aj ak ao=>by
 have:=aC ao
 try simp only[aa,ae]at *
 obtain⟨a12,ea12,qa12⟩:=ab ((0)+(E.I F Y6))
 try simp only[ea12]at *
 obtain⟨a13,ea13,qa13⟩:=ab (a12+(E.I F Y0))
 try simp only[ea13]at *
 obtain⟨a14,ea14,qa14⟩:=ab (a13+(E.I F Y7))
 try simp only[ea14]at *
 obtain⟨a15,ea15,qa15⟩:=ab (a14+(E.I F dO))
 omega
def aHw:=fb agr af6<|iN fun F p0 p1 p2 p3 p4 p5 p6 p7 p8 p9 aj ak ao=>by
 have:=aC ao
 try simp only[aa,ae]at *
 obtain⟨a12,ea12,qa12⟩:=ab ((0)+(E.I F Y6))
 try simp only[ea12]at *
 obtain⟨a13,ea13,qa13⟩:=ab (a12+(E.I F Y0))
 try simp only[ea13]at *
 obtain⟨a14,ea14,qa14⟩:=ab (a13+(E.I F Y7))
 try simp only[ea14]at *
 obtain⟨a15,ea15,qa15⟩:=ab (a14+(E.I F dO))
 omega
def SL:=fb Dr (.not (cmp .lss (.ar .add .i64 bw (.int 1)) (.int 0)))<|am fun F p0 p1 p2=>by
 have:=aC p0
 try simp only[aa,ae]at *
 obtain⟨a5,ea5,qa5⟩:=ab ((E.I F bw)+(1))
 omega
def axQ:=fb ([Bg,Lc,HU,BL]) (cmp .eql fA (fn 122 (pr Y3 (pr Y4 Y5))))<|aH fun F p0 p1 p2 p3=>by
 have:=@awB F Y5 Y4 Y3 bw
 try simp only[aa]at *
 grind
def acx:=fb Dr (.not (cmp .lss (fn 9 (pr (fn 1 (pr Y3 (.int 29))) (.int 5))) (.ar .add .i64 bw (.int 1))))<|am fun F p0 p1 p2=>by
 try simp only[aa,ae]at *
 obtain⟨a5,ea5,qa5⟩:=ab ((E.I F bw)+(1))
 omega
def arf:=fb (Bg::HB::Lc::HU::gx) (.not (cmp .lss (.int 1000) fA))<|aR fun F p0 p1 p2 p3 p4=>by
 have:=aC p4
 try simp only[aa]at *
 omega
def aiB:=fb (iC::ac6::ach::acf::aam) (cmp .eql (.ar .add .i64 fA (.int 1)) (fn 6 (pr (fn 132 (pr Y3 (pr Y4 (pr (.int 4) Y5)))) (fn 133 (pr Y3 (pr Y4 (pr Y5 (.ar .add .i64 bw (.int 1)))))))))<|eB fun F p0 p1 p2 p3 p4 p5 p6 p7 p8=>by
 have:=aC p8
 have:=@aM F bw (.int 1)
 have:=@Bm F Y5 Y4 (.ar .add .i64 bw (.int 1)) _ _ _ _ (fn 1 (pr (fn 1 (pr Y3 _)) (fn 6 (pr (fn 8 (pr bw _)) _)))) rfl rfl rfl
 try simp only[aa,ae]at *
 obtain⟨a11,ea11,qa11⟩:=ab ((E.I F fA)+(1))
 omega
def aGQ:=fb (iC::(.not acf)::yU) H3<|aR fun F p0 p1 p2 p3 p4=>by
 have:=aC p4
 have:=@aM F bw (.int 1)
 have:=@Bm F Y5 Y4 (.ar .add .i64 bw (.int 1)) _ _ _ _ (fn 1 (pr (fn 1 (pr Y3 _)) (fn 6 (pr (fn 8 (pr bw _)) _)))) rfl rfl rfl
 try simp only[aa]at *
 grind
def au6:=fb (iC::(.not ach)::yU) H3<|aR fun F p0 p1 p2 p3 p4=>by
 have:=aC p4
 have:=@aM F bw (.int 1)
 have:=@Bm F Y5 Y4 (.ar .add .i64 bw (.int 1)) _ _ _ _ (fn 1 (pr (fn 1 (pr Y3 _)) (fn 6 (pr (fn 8 (pr bw _)) _)))) rfl rfl rfl
 try simp only[aa]at *
 grind
def azD:=fb (iC::(.not ac6)::yU) H3<|aR fun F p0 p1 p2 p3 p4=>by
 have:=aC p4
 have:=@aM F bw (.int 1)
 have:=@Bm F Y5 Y4 (.ar .add .i64 bw (.int 1)) _ _ _ _ (fn 1 (pr (fn 1 (pr Y3 _)) (fn 6 (pr (fn 8 (pr bw _)) _)))) rfl rfl rfl
 try simp only[aa]at *
 grind
def aht:=fb Yj SO<|cr fun F p0 p1 p2 p3 p4 p5=>by
 have:=aC p5
 try simp only[aa,ae]at *
 obtain⟨a5,ea5,qa5⟩:=ab ((E.I F fA)+(1))
 omega
def azY:=fb (iC::HB::yU) (.not (cmp .lss (fn 6 (pr (.int 160) (.ar .add .i64 bw (.int 1)))) fA))<|aR fun F p0 p1 p2 p3 p4=>by
 have:=aC p4
 try simp only[aa,ae]at *
 obtain⟨a5,ea5,qa5⟩:=ab ((E.I F bw)+(1))
 omega
def azz:=fb Yj (.not (cmp .lss (fn 6 (pr (.int 160) (.ar .add .i64 bw (.int 1)))) (.ar .add .i64 fA (.int 1))))<|cr fun F p0 p1 p2 p3 p4 p5=>by
 have:=aC p5
 try simp only[aa,ae]at *
 obtain⟨a5,ea5,qa5⟩:=ab ((E.I F bw)+(1))
 obtain⟨a6,ea6,qa6⟩:=ab ((E.I F fA)+(1))
 omega
def Ru:=fb Dr (cmp .lss (fn 7 (pr (fn 9 (pr (fn 1 (pr Y3 (.int 29))) (.int 5))) (.ar .add .i64 bw (.int 1)))) (fn 7 (pr (fn 9 (pr (fn 1 (pr Y3 (.int 29))) (.int 5))) bw)))<|am fun F p0 p1 p2=>by
 have:=aC p0
 try simp only[aa,ae]at *
 obtain⟨a5,ea5,qa5⟩:=ab ((E.I F bw)+(1))
 omega
def Xc:=fb Dr (.not (cmp .lss (fn 7 (pr (fn 9 (pr (fn 1 (pr Y3 (.int 29))) (.int 5))) (.ar .add .i64 bw (.int 1)))) (.int 0)))<|am fun F p0 p1 p2=>by
 try simp only[aa,ae]at *
 obtain⟨a5,ea5,qa5⟩:=ab ((E.I F bw)+(1))
 omega
def aQ:List Fa:=[amc,ai2,akS,ahE,XP,Zr,awE,aB9,y7,ann,aIf,ahS,anA,at7,aHw,SL,axQ,acx,arf,aiB,aGQ,au6,azD,aht,azY,azz,Ru,Xc]
theorem ajg:aW Try.prog (bu (aAO)):=sc aQ (aDe) agb ([]) (by kernel_rfl) (by kernel_rfl)
def XS:Nl:=nc ajg agb
def aFW:=fb ([i6,jk,jJ,acn]) kN<|aH fun F p0 p1 p2 p3=>by
 have:=@cI F Y3 Y4 Y5 Y6 Y0 Y7 dO gS aP
 try simp only[aa]at *
 grind
def ay9:=fb (i6::jk::jJ::lE::BL::mw::(.not nd)::afO) kN<|eB fun F p0 p1 p2 p3 p4 p5 p6 p7 p8=>by
 have:=@cI F Y3 Y4 Y5 Y6 Y0 Y7 dO gS aP
 try simp only[aa]at *
 grind
def amI:=fb ([i6,jk,jJ,lE,mw,nd,YN]) kN<|de fun F p0 p1 p2 p3 p4 p5 p6=>by
 have:=@cI F Y3 Y4 Y5 Y6 Y0 Y7 dO gS aP
 try simp only[aa]at *
 grind
def arF:=fb ([i6,jk,jJ,lE,mw,nd,lU,Sh]) kN<|dw fun F p0 p1 p2 p3 p4 p5 p6 p7=>by
 have:=@cI F Y3 Y4 Y5 Y6 Y0 Y7 dO gS aP
 try simp only[aa]at *
 grind
def av2:=fb ([i6,jk,jJ,lE,mw,nd,lU,oJ,aaY]) kN<|eB fun F p0 p1 p2 p3 p4 p5 p6 p7 p8=>by
 have:=@cI F Y3 Y4 Y5 Y6 Y0 Y7 dO gS aP
 try simp only[aa]at *
 grind
def akq:=fb ([i6,jk,jJ,lE,mw,nd,lU,oJ,Cw,ZK]) kN<|iD fun F p0 p1 p2 p3 p4 p5 p6 p7 p8 p9=>by
 have:=@cI F Y3 Y4 Y5 Y6 Y0 Y7 dO gS aP
 try simp only[aa]at *
 grind
def alv:=fb (i6::jk::jJ::lE::mw::nd::lU::oJ::Cw::q8::Ld::(.not LZ)::aan) Vw<|yW fun F p0 p1 p2 p3 p4 p5 p6 p7 p8 p9 aj ak ao aq av=>by
 have:=@cI F Y3 Y4 Y5 Y6 Y0 Y7 dO gS aP
 try simp only[aa]at *
 grind
def apd:=fb ([i6,jk,jJ,lE,mw,nd,lU,oJ,Cw,aft]) kN<|iD fun F p0 p1 p2 p3 p4 p5 p6 p7 p8 p9=>by
 have:=@cI F Y3 Y4 Y5 Y6 Y0 Y7 dO gS aP
 try simp only[aa]at *
 grind
def av0:=fb ([i6,jk,jJ,lE,mw,nd,lU,oJ,ZF]) kN<|eB fun F p0 p1 p2 p3 p4 p5 p6 p7 p8=>by
 have:=@cI F Y3 Y4 Y5 Y6 Y0 Y7 dO gS aP
 try simp only[aa]at *
 grind
def aul:=fb ([i6,jk,jJ,lE,mw,nd,lU,VK]) kN<|dw fun F p0 p1 p2 p3 p4 p5 p6 p7=>by
 have:=@cI F Y3 Y4 Y5 Y6 Y0 Y7 dO gS aP
 try simp only[aa]at *
 grind
def amn:=fb (i6::jk::jJ::lE::BL::(.not mw)::afO) kN<|dw fun F p0 p1 p2 p3 p4 p5 p6 p7=>by
 have:=@cI F Y3 Y4 Y5 Y6 Y0 Y7 dO gS aP
 try simp only[aa]at *
 grind
def aId:=fb (i6::jk::jJ::lE::S7::oO::Cb::lU::oJ::Cw::q8::Ld::(.not (cmp .lss (.int 99) Y6))::(.not (cmp .lss (.int 99) Y0))::aan) Vw<|ED fun F p0 p1 p2 p3 p4 p5 p6 p7 p8 p9 aj ak ao aq av az aG=>by
 have:=@cI F Y3 Y4 Y5 Y6 Y0 Y7 dO gS aP
 try simp only[aa]at *
 grind
def aDG:=fb ([i6,jk,Jd]) kN<|am fun F p0 p1 p2=>by
 have:=@cI F Y3 Y4 Y5 Y6 Y0 Y7 dO gS aP
 try simp only[aa]at *
 grind
def as2:=fb ([i6,jk,LZ]) kN<|am fun F p0 p1 p2=>by
 have:=@cI F Y3 Y4 Y5 Y6 Y0 Y7 dO gS aP
 try simp only[aa]at *
 grind
def aV:List Fa:=[aFW,ay9,amI,arF,av2,akq,alv,apd,av0,aul,amn,G68,G67,Qv,G65,G64,VY,aId,G51,WP,G49,XM,Xb,aDG,as2,Vk,Sr,UI]
theorem aF4:aW Try.prog (bu (aaC 71)):=sc aV ([]) XS ([]) (by kernel_rfl) (by kernel_rfl)
def agD:Nl:=nc aF4 XS
def apF:=fb gx (cmp .eql (.ar .add .i64 (.ar .add .i64 (.ar .add .i64 (.ar .add .i64 (.ar .add .i64 (.ar .add .i64 (.ar .add .i64 (.ar .add .i64 (.int 0) (fn 0 (fn 1 (pr Y3 (.int 6))))) (fn 0 (fn 1 (pr Y3 (.int 7))))) (fn 0 (fn 1 (pr Y3 (.int 8))))) (fn 0 (fn 1 (pr Y3 (.int 9))))) (fn 0 (fn 1 (pr Y3 (.int 20))))) (fn 0 (fn 1 (pr Y3 (.int 21))))) (fn 0 (fn 1 (pr Y3 (.int 22))))) (fn 0 (fn 1 (pr Y3 (.int 23))))) (fn 6 (pr (fn 134 (pr Y3 (.int 8))) (fn 135 (pr Y3 (.int 0))))))<|aB fun F p0=>by
 have:=aC p0
 have:=@aqW F Y3
 have:=@aAi F Y3 (.int 0)
 try simp only[aa,ae]at *
 have:=@dS F (fn 1 (pr Y3 (.int 6)))
 have:=@dS F (fn 1 (pr Y3 (.int 7)))
 have:=@dS F (fn 1 (pr Y3 (.int 8)))
 have:=@dS F (fn 1 (pr Y3 (.int 9)))
 have:=@dS F (fn 1 (pr Y3 (.int 20)))
 have:=@dS F (fn 1 (pr Y3 (.int 21)))
 have:=@dS F (fn 1 (pr Y3 (.int 22)))
 have:=@dS F (fn 1 (pr Y3 (.int 23)))
 obtain⟨a10,ea10,qa10⟩:=ab ((0)+(E.I F (fn 0 (fn 1 (pr Y3 (.int 6))))))
 obtain⟨a11,ea11,qa11⟩:=ab (a10+(E.I F (fn 0 (fn 1 (pr Y3 (.int 7))))))
 obtain⟨a12,ea12,qa12⟩:=ab (a11+(E.I F (fn 0 (fn 1 (pr Y3 (.int 8))))))
 obtain⟨a13,ea13,qa13⟩:=ab (a12+(E.I F (fn 0 (fn 1 (pr Y3 (.int 9))))))
 obtain⟨a14,ea14,qa14⟩:=ab (a13+(E.I F (fn 0 (fn 1 (pr Y3 (.int 20))))))
 obtain⟨a15,ea15,qa15⟩:=ab (a14+(E.I F (fn 0 (fn 1 (pr Y3 (.int 21))))))
 obtain⟨a16,ea16,qa16⟩:=ab (a15+(E.I F (fn 0 (fn 1 (pr Y3 (.int 22))))))
 obtain⟨a17,ea17,qa17⟩:=ab (a16+(E.I F (fn 0 (fn 1 (pr Y3 (.int 23))))))
 grind
def apt:=fb gx (.not (cmp .lss (.ar .add .i64 (.ar .add .i64 (.ar .add .i64 (.ar .add .i64 (.ar .add .i64 (.ar .add .i64 (.ar .add .i64 (.ar .add .i64 (.int 0) (fn 0 (fn 1 (pr Y3 (.int 6))))) (fn 0 (fn 1 (pr Y3 (.int 7))))) (fn 0 (fn 1 (pr Y3 (.int 8))))) (fn 0 (fn 1 (pr Y3 (.int 9))))) (fn 0 (fn 1 (pr Y3 (.int 20))))) (fn 0 (fn 1 (pr Y3 (.int 21))))) (fn 0 (fn 1 (pr Y3 (.int 22))))) (fn 0 (fn 1 (pr Y3 (.int 23))))) (.int 0)))<|aB fun F p0=>by
 have:=aC p0
 try simp only[aa,ae]at *
 have:=@dS F (fn 1 (pr Y3 (.int 6)))
 have:=@dS F (fn 1 (pr Y3 (.int 7)))
 have:=@dS F (fn 1 (pr Y3 (.int 8)))
 have:=@dS F (fn 1 (pr Y3 (.int 9)))
 have:=@dS F (fn 1 (pr Y3 (.int 20)))
 have:=@dS F (fn 1 (pr Y3 (.int 21)))
 have:=@dS F (fn 1 (pr Y3 (.int 22)))
 have:=@dS F (fn 1 (pr Y3 (.int 23)))
 obtain⟨a8,ea8,qa8⟩:=ab ((0)+(E.I F (fn 0 (fn 1 (pr Y3 (.int 6))))))
 obtain⟨a9,ea9,qa9⟩:=ab (a8+(E.I F (fn 0 (fn 1 (pr Y3 (.int 7))))))
 obtain⟨a10,ea10,qa10⟩:=ab (a9+(E.I F (fn 0 (fn 1 (pr Y3 (.int 8))))))
 obtain⟨a11,ea11,qa11⟩:=ab (a10+(E.I F (fn 0 (fn 1 (pr Y3 (.int 9))))))
 obtain⟨a12,ea12,qa12⟩:=ab (a11+(E.I F (fn 0 (fn 1 (pr Y3 (.int 20))))))
 obtain⟨a13,ea13,qa13⟩:=ab (a12+(E.I F (fn 0 (fn 1 (pr Y3 (.int 21))))))
 obtain⟨a14,ea14,qa14⟩:=ab (a13+(E.I F (fn 0 (fn 1 (pr Y3 (.int 22))))))
 obtain⟨a15,ea15,qa15⟩:=ab (a14+(E.I F (fn 0 (fn 1 (pr Y3 (.int 23))))))
 grind
def aIW:=fb gx (.not (cmp .lss (.int 320) (.ar .add .i64 (.ar .add .i64 (.ar .add .i64 (.ar .add .i64 (.ar .add .i64 (.ar .add .i64 (.ar .add .i64 (.ar .add .i64 (.int 0) (fn 0 (fn 1 (pr Y3 (.int 6))))) (fn 0 (fn 1 (pr Y3 (.int 7))))) (fn 0 (fn 1 (pr Y3 (.int 8))))) (fn 0 (fn 1 (pr Y3 (.int 9))))) (fn 0 (fn 1 (pr Y3 (.int 20))))) (fn 0 (fn 1 (pr Y3 (.int 21))))) (fn 0 (fn 1 (pr Y3 (.int 22))))) (fn 0 (fn 1 (pr Y3 (.int 23)))))))<|aB fun F p0=>by
 have:=aC p0
 try simp only[aa,ae]at *
 have:=@dS F (fn 1 (pr Y3 (.int 6)))
 have:=@dS F (fn 1 (pr Y3 (.int 7)))
 have:=@dS F (fn 1 (pr Y3 (.int 8)))
 have:=@dS F (fn 1 (pr Y3 (.int 9)))
 have:=@dS F (fn 1 (pr Y3 (.int 20)))
 have:=@dS F (fn 1 (pr Y3 (.int 21)))
 have:=@dS F (fn 1 (pr Y3 (.int 22)))
 have:=@dS F (fn 1 (pr Y3 (.int 23)))
 obtain⟨a8,ea8,qa8⟩:=ab ((0)+(E.I F (fn 0 (fn 1 (pr Y3 (.int 6))))))
 obtain⟨a9,ea9,qa9⟩:=ab (a8+(E.I F (fn 0 (fn 1 (pr Y3 (.int 7))))))
 obtain⟨a10,ea10,qa10⟩:=ab (a9+(E.I F (fn 0 (fn 1 (pr Y3 (.int 8))))))
 obtain⟨a11,ea11,qa11⟩:=ab (a10+(E.I F (fn 0 (fn 1 (pr Y3 (.int 9))))))
 obtain⟨a12,ea12,qa12⟩:=ab (a11+(E.I F (fn 0 (fn 1 (pr Y3 (.int 20))))))
 obtain⟨a13,ea13,qa13⟩:=ab (a12+(E.I F (fn 0 (fn 1 (pr Y3 (.int 21))))))
 obtain⟨a14,ea14,qa14⟩:=ab (a13+(E.I F (fn 0 (fn 1 (pr Y3 (.int 22))))))
 obtain⟨a15,ea15,qa15⟩:=ab (a14+(E.I F (fn 0 (fn 1 (pr Y3 (.int 23))))))
 grind
def aIV:=fa ((fn 123 (pr Y3 (.int 0))))<|fun F=>by
 rfl
def aHA:=fb (iC::ub::JX::(.not afB)::LF) ue<|cr fun F p0 p1 p2 p3 p4 p5=>by
 have:=@ES F (fn 6 (pr bw (.int 1))) _ _ p4 _ _ _ _ (fn 1 (pr _ (fn 6 (pr (fn 8 (pr vM _)) _)))) rfl rfl rfl rfl
 try simp only[aa]at *
 grind
def ayG:=fb (iC::ub::JX::PP::LF) ue<|cr fun F p0 p1 p2 p3 p4 p5=>by
 have:=@ES F (fn 6 (pr bw (.int 1))) _ _ p4 _ _ _ _ (fn 1 (pr _ (fn 6 (pr (fn 8 (pr vM _)) _)))) rfl rfl rfl rfl
 try simp only[aa]at *
 grind
def auu:=fb (Bg::Ta::Zs) (cmp .eql fA (fn 6 (pr (fn 134 (pr Y3 (.int 8))) (fn 135 (pr Y3 (fn 9 (pr (fn 1 (pr Y3 (.int 29))) (.int 5))))))))<|am fun F p0 p1 p2=>by
 have:=@aBW F (fn 9 (pr (fn 1 (pr Y3 (.int 29))) (.int 5))) Y3 bw
 try simp only[aa]at *
 grind
def akF:=fb (Bg::l8::afC::Zs) Px<|aH fun F p0 p1 p2 p3=>by
 have g0:E.I F (fn 9 (pr (fn 1 (pr Y3 (.int 29))) (.int 5)))=E.I F bw:=by
  try simp only[aa]at *
  omega
 grind[anN]
def asq:=fb (iC::(.not ub)::l8::Nj) (cmp .eql fA (fn 6 (pr (fn 134 (pr Y3 (.int 8))) (fn 135 (pr Y3 (.ar .add .i64 bw (.int 1)))))))<|aR fun F p0 p1 p2 p3 p4=>by
 have:=aC p2
 have:=@aM F bw (.int 1)
 have:=@aau F (.ar .add .i64 bw (.int 1)) _ _ (fn 1 (pr (fn 1 (pr Y3 _)) (fn 6 (pr (fn 8 (pr bw _)) _)))) rfl
 try simp only[aa]at *
 grind
def asx:=fb (iC::ub::acv) (cmp .eql (.ar .add .i64 fA (.int 1)) (fn 6 (pr (fn 134 (pr Y3 (.int 8))) (fn 135 (pr Y3 (.ar .add .i64 bw (.int 1)))))))<|de fun F p0 p1 p2 p3 p4 p5 p6=>by
 have:=aC p2
 have:=@aM F bw (.int 1)
 have:=@aau F (.ar .add .i64 bw (.int 1)) _ _ (fn 1 (pr (fn 1 (pr Y3 _)) (fn 6 (pr (fn 8 (pr bw _)) _)))) rfl
 try simp only[aa,ae]at *
 obtain⟨a9,ea9,qa9⟩:=ab ((E.I F fA)+(1))
 omega
def aCc:=fa ((fn 124 (pr Y3 (.int 0))))<|fun F=>by
 rfl
def aho:=fb (iC::l8::Zl::Nj) (.not (cmp .lss (fn 6 (pr (.int 320) (.ar .add .i64 bw (.int 1)))) fA))<|aR fun F p0 p1 p2 p3 p4=>by
 have:=aC p1
 try simp only[aa,ae]at *
 obtain⟨a5,ea5,qa5⟩:=ab ((E.I F bw)+(1))
 omega
def axZ:=fb agB SO<|cr fun F p0 p1 p2 p3 p4 p5=>by
 have:=aC p1
 try simp only[aa,ae]at *
 obtain⟨a7,ea7,qa7⟩:=ab ((E.I F fA)+(1))
 omega
def auy:=fb LK (.not (cmp .lss (.ar .sub .i64 bm (.int 1)) (.int 0)))<|am fun F p0 p1 p2=>by
 have:=aC p0
 try simp only[aa,ae]at *
 obtain⟨a5,ea5,qa5⟩:=ab ((E.I F bm)-(1))
 omega
def anQ:=fb ([qj,oB]) (.not (cmp .lss (fn 1 (pr (fn 1 (pr Y3 (.int 0))) (fn 6 (pr (fn 8 (pr bm (.int 12))) (.int 2))))) (.int 0)))<|ax fun F p0 p1=>by
 have:=@cI F (fn 1 (pr (fn 1 (pr Y3 (.int 0))) (fn 6 (pr (fn 8 (pr bm (.int 12))) (.int 0))))) (fn 1 (pr (fn 1 (pr Y3 (.int 0))) (fn 6 (pr (fn 8 (pr bm (.int 12))) (.int 1))))) (fn 1 (pr (fn 1 (pr Y3 (.int 0))) (fn 6 (pr (fn 8 (pr bm (.int 12))) (.int 2))))) (fn 1 (pr (fn 1 (pr Y3 (.int 0))) (fn 6 (pr (fn 8 (pr bm (.int 12))) (.int 3))))) (fn 1 (pr (fn 1 (pr Y3 (.int 0))) (fn 6 (pr (fn 8 (pr bm (.int 12))) (.int 4))))) (fn 1 (pr (fn 1 (pr Y3 (.int 0))) (fn 6 (pr (fn 8 (pr bm (.int 12))) (.int 5))))) (fn 1 (pr (fn 1 (pr Y3 (.int 0))) (fn 6 (pr (fn 8 (pr bm (.int 12))) (.int 6))))) (fn 1 (pr (fn 1 (pr Y3 (.int 0))) (fn 6 (pr (fn 8 (pr bm (.int 12))) (.int 7))))) (fn 1 (pr (fn 1 (pr Y3 (.int 0))) (fn 6 (pr (fn 8 (pr bm (.int 12))) (.int 8)))))
 try simp only[aa]at *
 grind
def amv:=fb ([(.not oE),Hh,Px,(cmp .eql (var 25) (fn 6 (pr (fn 134 (pr Y3 (.int 8))) (fn 135 (pr Y3 (fn 9 (pr (fn 1 (pr Y3 (.int 29))) (.int 5)))))))),(.not (cmp .lss (fn 9 (pr (fn 1 (pr Y3 (.int 0))) (.int 12))) bm))]) (.iff (cmp .eql (var 25) (fn 9 (pr (fn 1 (pr Y3 (.int 0))) (.int 12)))) (fn 125 Y3))<|aR fun F p0 p1 p2 p3 p4=>by
 have:=@aBc F _ _ (var 25) p2 p1
 try simp only[aa]at *
 grind
def aDl:=fb (iC::(.not ub)::agq) WS<|aR fun F p0 p1 p2 p3 p4=>by
 have:=aC p2
 have:=@aM F bw (.int 1)
 have:=@ES F (.ar .add .i64 bw (.int 1)) _ _ p3 _ _ _ _ (fn 1 (pr _ (fn 6 (pr (fn 8 (pr (.int 0) _)) _)))) rfl rfl rfl rfl
 try simp only[aa]at *
 grind
def aoo:=fb agB (.not (cmp .lss (fn 6 (pr (.int 320) (.ar .add .i64 bw (.int 1)))) (.ar .add .i64 fA (.int 1))))<|cr fun F p0 p1 p2 p3 p4 p5=>by
 have:=aC p1
 try simp only[aa,ae]at *
 obtain⟨a7,ea7,qa7⟩:=ab ((E.I F bw)+(1))
 obtain⟨a8,ea8,qa8⟩:=ab ((E.I F fA)+(1))
 omega
def aBT:=fb CJ (cmp .lss (.ar .sub .i64 bm (.int 1)) (fn 9 (pr (fn 1 (pr Y3 (.int 0))) (.int 12))))<|ax fun F p0 p1=>by
 try simp only[aa,ae]at *
 obtain⟨a5,ea5,qa5⟩:=ab ((E.I F bm)-(1))
 omega
def ahs:=fb ([qj,oB]) (.not (cmp .lss (.int 1) (fn 1 (pr (fn 1 (pr Y3 (.int 0))) (fn 6 (pr (fn 8 (pr bm (.int 12))) (.int 2)))))))<|ax fun F p0 p1=>by
 have:=@cI F (fn 1 (pr (fn 1 (pr Y3 (.int 0))) (fn 6 (pr (fn 8 (pr bm (.int 12))) (.int 0))))) (fn 1 (pr (fn 1 (pr Y3 (.int 0))) (fn 6 (pr (fn 8 (pr bm (.int 12))) (.int 1))))) (fn 1 (pr (fn 1 (pr Y3 (.int 0))) (fn 6 (pr (fn 8 (pr bm (.int 12))) (.int 2))))) (fn 1 (pr (fn 1 (pr Y3 (.int 0))) (fn 6 (pr (fn 8 (pr bm (.int 12))) (.int 3))))) (fn 1 (pr (fn 1 (pr Y3 (.int 0))) (fn 6 (pr (fn 8 (pr bm (.int 12))) (.int 4))))) (fn 1 (pr (fn 1 (pr Y3 (.int 0))) (fn 6 (pr (fn 8 (pr bm (.int 12))) (.int 5))))) (fn 1 (pr (fn 1 (pr Y3 (.int 0))) (fn 6 (pr (fn 8 (pr bm (.int 12))) (.int 6))))) (fn 1 (pr (fn 1 (pr Y3 (.int 0))) (fn 6 (pr (fn 8 (pr bm (.int 12))) (.int 7))))) (fn 1 (pr (fn 1 (pr Y3 (.int 0))) (fn 6 (pr (fn 8 (pr bm (.int 12))) (.int 8)))))
 try simp only[aa]at *
 grind
def atF:=fb (iC::ub::JX::(.not PP)::afB::agq) WS<|dw fun F p0 p1 p2 p3 p4 p5 p6 p7=>by
 have:=aC p5
 have:=@aM F bw (.int 1)
 have:=@ES F (.ar .add .i64 bw (.int 1)) _ _ p6 _ _ _ _ (fn 1 (pr _ (fn 6 (pr (fn 8 (pr vM _)) _)))) rfl rfl rfl rfl
 try simp only[aa]at *
 grind
def aiy:=fb (oE::qj::oB::I8::Be::(.not Cn)::aeC) ue<|dw fun F p0 p1 p2 p3 p4 p5 p6 p7=>by
 have:=@uX F _ (fn 6 (pr bm (.int 1))) _ p6 (.ar .sub .i64 bm (.int 1)) _ _ _ _ _ _ _ _ _ rfl rfl rfl rfl rfl rfl rfl rfl rfl
 try simp only[aa]at *
 grind
def azg:=fb M8 aeH<|ax fun F p0 p1=>by
 try simp only[aa,ae]at *
 obtain⟨a6,ea6,qa6⟩:=ab ((E.I F bm)+(1))
 omega
def azI:=fb (oE::qj::oB::xJ::JU::Be::(.not Cn)::B3) ue<|iD fun F p0 p1 p2 p3 p4 p5 p6 p7 p8 p9=>by
 have:=aC p9
 have:=@bH F bm (.int 1)
 have:=@uX F _ (fn 6 (pr bm (.int 1))) _ p7 (.ar .sub .i64 bm (.int 1)) _ _ _ _ _ _ _ _ _ rfl rfl rfl rfl rfl rfl rfl rfl rfl
 try simp only[aa]at *
 grind
def ajG:=fb LK aeH<|am fun F p0 p1 p2=>by
 have:=aC p0
 try simp only[aa,ae]at *
 obtain⟨a7,ea7,qa7⟩:=ab ((E.I F bm)+(1))
 omega
def anD:=fb (oE::qj::oB::xJ::(.not JU)::B3) ue<|dw fun F p0 p1 p2 p3 p4 p5 p6 p7=>by
 have:=aC p7
 have:=@bH F bm (.int 1)
 have:=@uX F _ (fn 6 (pr bm (.int 1))) _ p5 (.ar .sub .i64 bm (.int 1)) _ _ _ _ _ _ _ _ _ rfl rfl rfl rfl rfl rfl rfl rfl rfl
 try simp only[aa]at *
 grind
def aiS:=fb (oE::qj::(.not oB)::B3) ue<|cr fun F p0 p1 p2 p3 p4 p5=>by
 have:=aC p5
 have:=@bH F bm (.int 1)
 have:=@uX F _ (fn 6 (pr bm (.int 1))) _ p3 (.ar .sub .i64 bm (.int 1)) _ _ _ _ _ _ _ _ _ rfl rfl rfl rfl rfl rfl rfl rfl rfl
 try simp only[aa]at *
 grind
def aGL:=fb abX acZ<|am fun F p0 p1 p2=>by
 try simp only[aa,ae]at *
 obtain⟨a7,ea7,qa7⟩:=ab ((E.I F bm)+(1))
 omega
def axU:=fb CJ acZ<|ax fun F p0 p1=>by
 try simp only[aa,ae]at *
 obtain⟨a7,ea7,qa7⟩:=ab ((E.I F bm)+(1))
 omega
def aA7:=fb (oE::qj::oB::I8::Be::Cn::aeC) ahf<|dw fun F p0 p1 p2 p3 p4 p5 p6 p7=>by
 have:=@aM F bm (.int 1)
 have:=@uX F _ (.ar .add .i64 bm (.int 1)) _ p6 (.ar .sub .i64 bm (.int 1)) _ _ _ _ _ _ _ _ _ rfl rfl rfl rfl rfl rfl rfl rfl rfl
 try simp only[aa]at *
 grind
def ajq:=fb (oE::qj::oB::xJ::JU::Be::Cn::B3) ahf<|iD fun F p0 p1 p2 p3 p4 p5 p6 p7 p8 p9=>by
 have:=aC p9
 have:=@bH F bm (.int 1)
 have:=@aM F bm (.int 1)
 have:=@uX F _ (.ar .add .i64 bm (.int 1)) _ p7 (.ar .sub .i64 bm (.int 1)) _ _ _ _ _ _ _ _ _ rfl rfl rfl rfl rfl rfl rfl rfl rfl
 try simp only[aa]at *
 grind
def azB:=fb M8 abm<|ax fun F p0 p1=>by
 try simp only[aa,ae]at *
 obtain⟨a7,ea7,qa7⟩:=ab ((E.I F bm)+(1))
 omega
def ax8:=fb LK abm<|am fun F p0 p1 p2=>by
 have:=aC p0
 try simp only[aa,ae]at *
 obtain⟨a7,ea7,qa7⟩:=ab ((E.I F bm)+(1))
 omega
def anw:=fb abX Yb<|am fun F p0 p1 p2=>by
 try simp only[aa,ae]at *
 obtain⟨a7,ea7,qa7⟩:=ab ((E.I F bm)+(1))
 omega
def aAX:=fb CJ Yb<|ax fun F p0 p1=>by
 try simp only[aa,ae]at *
 obtain⟨a7,ea7,qa7⟩:=ab ((E.I F bm)+(1))
 omega
def bb:List Fa:=[y7,M4,apF,apt,aIW,aIV,SL,aHA,ayG,auu,acx,akF,asq,asx,aCc,aho,axZ,auy,anQ,amv,aDl,aoo,aBT,ahs,Ru,atF,Xc,aiy,azg,azI,ajG,anD,aiS,aGL,axU,aA7,ajq,azB,ax8,anw,aAX]
theorem aBk:aW Try.prog (bu (aCw)):=sc bb (aEP) agD ([]) (by kernel_rfl) (by kernel_rfl)
def Uh:Nl:=nc aBk agD
end
end Go.Proofs.Ytnnbmcfabojjjaa.payHolds
