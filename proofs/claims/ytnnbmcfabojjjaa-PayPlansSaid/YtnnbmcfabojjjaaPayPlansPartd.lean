/-
  PayPlans: contracts of functions, part 4.
-/
import Derived.Test.YtnnbmcfabojjjaaRows
import Derived.Test.YtnnbmcfabojjjaaNat
import Derived.WalkKit
import Derived.ProofKit
import Derived.OpenShut
import Derived.ChangeOld
import Derived.Below
import Derived.KernelRfl
import Derived.Lib.SmallJoins
import Derived.Laws.IdiomArrays
import Derived.Test.YtnnbmcfabojjjaaPayPlansPartc
namespace Go.Proofs.Ytnnbmcfabojjjaa.payPlans
open Go.ChangeShapes Go.WideShapes Go.ChangeAt Go.RowKit
open Go.SX
open Go.SX.E (fn pr cmp var)
set_option linter.unusedVariables false
set_option linter.unusedSimpArgs false
set_option maxRecDepth 100000
noncomputable section
abbrev Y0:E:=var 4
abbrev Y1:E:=cmp .lss (.int 4) (fn 9 (pr Y0 (.int 2)))
abbrev Y2:E:=.bool false
abbrev Y3:E:=var 0
abbrev Y4:E:=var 1
abbrev Y5:E:=var 2
abbrev Y6:E:=var 3
abbrev Y7:E:=var 5
abbrev Y8:E:=pr Y6 (pr Y0 Y7)
abbrev Y9:E:=pr Y5 Y8
abbrev Y10:E:=pr Y4 Y9
abbrev Y11:E:=pr Y3 Y10
abbrev Y12:E:=fn 102 Y11
abbrev iU:E:=.iff Y2 Y12
abbrev VO:E:=cmp .lss (.int 0) (fn 9 (pr Y0 (.int 2)))
abbrev R0:E:=cmp .lss Y6 (.int 0)
abbrev sB:E:=.not R0
abbrev Cg:E:=.imp sB (cmp .eql (fn 9 (pr Y0 (.int 2))) (.int 0))
abbrev Lq:E:=.not Y1
abbrev Ln:E:=cmp .lss (.int 1) Y6
abbrev Vh:E:=cmp .lss (.int 399) Y5
abbrev Nj:E:=cmp .lss Y5 (.int 0)
abbrev kJ:E:=.not Nj
abbrev Y23:E:=cmp .lss (.int 500) Y4
abbrev Y24:E:=cmp .lss Y4 (.int 1)
abbrev Y25:E:=cmp .lss (.int 1) Y3
abbrev Y26:E:=cmp .lss Y3 (.int 0)
abbrev Y27:E:=.not Y26
abbrev Y28:=[Y27]
abbrev Y29:List E:=(.not Y25)::Y28
abbrev Y30:List E:=(.not Y24)::Y29
abbrev Y31:List E:=(.not Y23)::Y30
abbrev Y32:=kJ::Y31
abbrev Y33:List E:=(.not Vh)::Y32
abbrev Lt:E:=cmp .lss Y6 (.int (-1))
abbrev y7:E:=.imp Y7 sB
abbrev aX:E:=var 8
abbrev lI:E:=cmp .lss aX (fn 9 (pr Y0 (.int 2)))
abbrev Y38:E:=cmp .lss (fn 1 (pr Y0 (fn 6 (pr (fn 8 (pr aX (.int 2))) (.int 0))))) (.int 0)
abbrev zt:E:=.not Y38
abbrev Y40:E:=cmp .lss (fn 1 (pr Y0 (fn 6 (pr (fn 8 (pr aX (.int 2))) (.int 1))))) (.int 0)
abbrev Eo:E:=.not Y40
abbrev Gi:E:=cmp .lss (.int 1) (fn 1 (pr Y0 (fn 6 (pr (fn 8 (pr aX (.int 2))) (.int 1)))))
abbrev Y43:E:=cmp .lss (.int 0) (fn 1 (pr Y0 (fn 6 (pr (fn 8 (pr aX (.int 2))) (.int 0)))))
abbrev Y44:E:=cmp .eql (fn 1 (pr Y0 (fn 6 (pr (fn 8 (pr aX (.int 2))) (.int 1))))) (.int 0)
abbrev NC:E:=cmp .lss (.int 500) (fn 1 (pr Y0 (fn 6 (pr (fn 8 (pr aX (.int 2))) (.int 0)))))
abbrev Y46:E:=cmp .lss aX (.int 0)
abbrev vb:E:=.not Y46
abbrev Y48:List E:=(.not Lt)::Y33
abbrev Y49:List E:=(.not Ln)::Y48
abbrev UE:=Lq::Y49
abbrev nq:=[vb]
abbrev Y52:E:=pr Y0 aX
abbrev Y53:E:=fn 101 Y52
abbrev Y54:=[Lq]
abbrev QI:=vb::Y54
abbrev ff:E:=.ar .add .i64 aX (.int 1)
abbrev Y57:E:=cmp .lss ff (.int 0)
abbrev MO:E:=.not Y57
abbrev Y59:=Y53::QI
abbrev Y60:List E:=(.not NC)::Y59
abbrev Y61:E:=fn 101 (pr Y0 ff)
abbrev pm:E:=cmp .lss aX (fn 0 Y3)
abbrev Y63:E:=cmp .lss (.int 1000) (fn 0 Y3)
abbrev Y64:E:=.not Y63
abbrev Y65:=[Y64]
abbrev Y66:=vb::Y65
abbrev Y67:=pm::Y66
abbrev mH:E:=var 9
abbrev Sz:E:=cmp .eql mH (fn 131 (pr Y3 (pr Y4 aX)))
abbrev Y70:E:=cmp .lss aX mH
abbrev QQ:E:=.not Y70
abbrev Zs:E:=cmp .eql (fn 1 (pr Y3 aX)) Y4
abbrev Y73:E:=cmp .lss mH (.int 0)
abbrev Y74:E:=.not Y73
abbrev Y75:=Sz::Y66
abbrev Y76:=Y74::Y75
abbrev Oz:=QQ::Y76
abbrev Sl:E:=.ar .add .i64 mH (.int 1)
abbrev Y79:=pm::Oz
abbrev Gw:E:=cmp .lss aX (fn 9 (pr (fn 1 (pr Y3 (.int 0))) (.int 12)))
abbrev Y81:E:=cmp .eql (fn 1 (pr (fn 1 (pr Y3 (.int 0))) (fn 6 (pr (fn 8 (pr aX (.int 12))) (.int 0))))) Y4
abbrev LQ:E:=cmp .eql (fn 120 (pr Y3 (pr Y4 aX))) (.int (-1))
abbrev nY:E:=fn 117 Y3
abbrev Je:=Gw::nq
abbrev gm:=[nY]
abbrev Y86:E:=cmp .eql Y4 (.int 0)
abbrev Y87:E:=cmp .lss (fn 0 (fn 1 (pr Y3 (.int 6)))) Y6
abbrev Y88:E:=.not Y87
abbrev Y89:E:=cmp .eql Y6 (fn 121 (pr (fn 1 (pr Y3 (.int 6))) Y5))
abbrev Y90:E:=cmp .lss (fn 0 (fn 1 (pr Y3 (.int 7)))) Y0
abbrev Y91:E:=.not Y90
abbrev HD:E:=.not (cmp .lss Y0 (.int 0))
abbrev Y93:E:=cmp .eql Y0 (fn 121 (pr (fn 1 (pr Y3 (.int 7))) Y5))
abbrev Y94:E:=cmp .lss (fn 0 (fn 1 (pr Y3 (.int 8)))) Y7
abbrev Y95:E:=.not Y94
abbrev Y96:E:=cmp .lss Y7 (.int 0)
abbrev l5:E:=.not Y96
abbrev Y98:E:=cmp .eql Y7 (fn 121 (pr (fn 1 (pr Y3 (.int 8))) Y5))
abbrev dN:E:=var 6
abbrev aS8:E:=cmp .lss (fn 0 (fn 1 (pr Y3 (.int 9)))) dN
abbrev awe:E:=.not aS8
abbrev abu:E:=cmp .lss dN (.int 0)
abbrev pY:E:=.not abu
abbrev apP:E:=cmp .eql dN (fn 121 (pr (fn 1 (pr Y3 (.int 9))) Y5))
abbrev apv:=apP::gm
abbrev aIZ:=pY::apv
abbrev aBT:=awe::aIZ
abbrev aVG:=Y98::aBT
abbrev aQY:=l5::aVG
abbrev aoL:=Y95::aQY
abbrev arW:=Y93::aoL
abbrev at4:=HD::arW
abbrev aGV:=Y91::at4
abbrev avM:=Y89::aGV
abbrev auV:=sB::avM
abbrev Nf:=Y88::auV
abbrev Rh:E:=.ar .add .i64 (.ar .add .i64 (.ar .add .i64 (.ar .add .i64 (.int 0) Y6) Y0) Y7) dN
abbrev Wz:E:=cmp .eql Rh (fn 6 (pr (fn 132 (pr Y3 (pr Y4 (pr (.int 4) Y5)))) (fn 133 (pr Y3 (pr Y4 (pr Y5 (.int 0)))))))
abbrev aCl:E:=cmp .lss (fn 0 (fn 1 (pr Y3 (.int 20)))) Y6
abbrev aa4:E:=.not aCl
abbrev ahc:E:=cmp .eql Y6 (fn 121 (pr (fn 1 (pr Y3 (.int 20))) Y5))
abbrev aDV:E:=cmp .lss (fn 0 (fn 1 (pr Y3 (.int 21)))) Y0
abbrev amB:E:=.not aDV
abbrev XB:E:=cmp .eql Y0 (fn 121 (pr (fn 1 (pr Y3 (.int 21))) Y5))
abbrev aOi:E:=cmp .lss (fn 0 (fn 1 (pr Y3 (.int 22)))) Y7
abbrev am7:E:=.not aOi
abbrev agR:E:=cmp .eql Y7 (fn 121 (pr (fn 1 (pr Y3 (.int 22))) Y5))
abbrev aHp:E:=cmp .lss (fn 0 (fn 1 (pr Y3 (.int 23)))) dN
abbrev aeG:E:=.not aHp
abbrev YT:E:=cmp .eql dN (fn 121 (pr (fn 1 (pr Y3 (.int 23))) Y5))
abbrev aaM:E:=cmp .lss Y4 (.int 0)
abbrev Lb:E:=.not aaM
abbrev aS1:E:=cmp .lss Rh (.int 0)
abbrev abK:E:=.not aS1
abbrev aTP:=aeG::pY::YT::gm
abbrev aHx:=agR::aTP
abbrev aQo:=l5::aHx
abbrev aEt:=am7::aQo
abbrev aIk:=XB::aEt
abbrev aCa:=HD::aIk
abbrev aoT:=amB::aCa
abbrev aRT:=ahc::aoT
abbrev aIo:=sB::aRT
abbrev aeH:=aa4::aIo
abbrev aEc:E:=cmp .lss (.int 160) Rh
abbrev anx:E:=.not aEc
abbrev ci:E:=var 16
abbrev iE:E:=cmp .lss ci (fn 9 (pr (fn 1 (pr Y3 (.int 29))) (.int 5)))
abbrev aCi:E:=cmp .lss ci (.int 0)
abbrev ZR:E:=.not aCi
abbrev QY:=[ZR]
abbrev aEj:=iE::QY
abbrev H4:=nY::aEj
abbrev eZ:E:=.ar .add .i64 ci (.int 1)
abbrev Fj:E:=.not iE
abbrev fU:E:=var 17
abbrev Oh:E:=cmp .eql fU (fn 6 (pr (fn 132 (pr Y3 (pr Y4 (pr (.int 4) Y5)))) (fn 133 (pr Y3 (pr Y4 (pr Y5 ci))))))
abbrev aWJ:E:=cmp .lss (fn 9 (pr (fn 1 (pr Y3 (.int 29))) (.int 5))) ci
abbrev ME:E:=.not aWJ
abbrev ayz:E:=cmp .lss (fn 6 (pr (.int 160) ci)) fU
abbrev NE:E:=.not ayz
abbrev ami:E:=cmp .eql (fn 1 (pr (fn 1 (pr Y3 (.int 29))) (fn 6 (pr (fn 8 (pr ci (.int 5))) (.int 3))))) (.int (-1))
abbrev VL:E:=cmp .eql (fn 1 (pr (fn 1 (pr Y3 (.int 29))) (fn 6 (pr (fn 8 (pr ci (.int 5))) (.int 1))))) Y5
abbrev alV:E:=cmp .eql (fn 1 (pr (fn 1 (pr Y3 (.int 29))) (fn 6 (pr (fn 8 (pr ci (.int 5))) (.int 0))))) Y4
abbrev auY:E:=cmp .lss fU (.int 0)
abbrev agB:E:=.not auY
abbrev Dx:=Oh::ZR::gm
abbrev aFJ:=agB::Dx
abbrev ame:=NE::aFJ
abbrev Du:E:=.ar .add .i64 fU (.int 1)
abbrev RQ:E:=cmp .eql fU (fn 6 (pr (fn 132 (pr Y3 (pr Y4 (pr (.int 4) Y5)))) (fn 133 (pr Y3 (pr Y4 (pr Y5 eZ))))))
abbrev Xg:=iE::ame
abbrev aEF:E:=cmp .lss Du (.int 0)
abbrev ai3:E:=.not aEF
abbrev jd:E:=.not (cmp .lss Y3 (.int 1))
abbrev jb:E:=.not (cmp .lss Y4 (.int (-1)))
abbrev adC:E:=cmp .lss (.int 1) Y5
abbrev gO:E:=var 7
abbrev aNC:E:=pr gO aX
abbrev atG:E:=pr dN aNC
abbrev aD4:E:=pr Y7 atG
abbrev awM:E:=pr Y0 aD4
abbrev aQH:E:=pr Y6 awM
abbrev aVm:E:=pr Y5 aQH
abbrev aqb:E:=pr Y4 aVm
abbrev aBm:E:=pr Y3 aqb
abbrev aew:E:=fn 137 aBm
abbrev lE:E:=.iff Y2 aew
abbrev lV:E:=.not adC
abbrev nA:E:=cmp .eql Y6 (.int 0)
abbrev pB:E:=cmp .eql Y0 (.int 0)
abbrev aLY:E:=cmp .lss (.int 500) Y3
abbrev Me:E:=.not aLY
abbrev Sm:E:=cmp .lss (.int 399) Y4
abbrev Zf:=[Me,(.not Sm)]
abbrev akk:E:=cmp .lss gO (.int 0)
abbrev Hn:E:=.not akk
abbrev ah9:E:=cmp .lss (.int 99) Y7
abbrev akD:E:=cmp .lss (.int 99) dN
abbrev WF:E:=cmp .lss (.int 99) gO
abbrev aIQ:List E:=[(.not akD),(.not WF)]
abbrev alR:List E:=(.not ah9)::aIQ
abbrev aOg:E:=cmp .lss (.int 99) aX
abbrev aRv:E:=.not aOg
abbrev anc:E:=.iff aRv aew
abbrev NF:E:=.ar .add .i64 (.ar .add .i64 (.ar .add .i64 (.ar .add .i64 (.ar .add .i64 (.ar .add .i64 (.ar .add .i64 (.ar .add .i64 (.int 0) (fn 0 (fn 1 (pr Y3 (.int 6))))) (fn 0 (fn 1 (pr Y3 (.int 7))))) (fn 0 (fn 1 (pr Y3 (.int 8))))) (fn 0 (fn 1 (pr Y3 (.int 9))))) (fn 0 (fn 1 (pr Y3 (.int 20))))) (fn 0 (fn 1 (pr Y3 (.int 21))))) (fn 0 (fn 1 (pr Y3 (.int 22))))) (fn 0 (fn 1 (pr Y3 (.int 23))))
abbrev xC:E:=cmp .lss (fn 1 (pr (fn 1 (pr Y3 (.int 29))) (fn 6 (pr (fn 8 (pr ci (.int 5))) (.int 3))))) (.int 0)
abbrev yn:E:=var 18
abbrev SO:E:=cmp .eql yn (fn 120 (pr Y3 (pr (fn 1 (pr (fn 1 (pr Y3 (.int 29))) (fn 6 (pr (fn 8 (pr ci (.int 5))) (.int 1))))) (fn 9 (pr (fn 1 (pr Y3 (.int 0))) (.int 12))))))
abbrev TN:E:=cmp .eql (fn 1 (pr (fn 1 (pr Y3 (.int 0))) (fn 6 (pr (fn 8 (pr yn (.int 12))) (.int 1))))) (fn 1 (pr (fn 1 (pr Y3 (.int 29))) (fn 6 (pr (fn 8 (pr ci (.int 5))) (.int 2)))))
abbrev ajG:E:=fn 123 (pr Y3 ci)
abbrev Mc:=ajG::QY
abbrev w9:E:=.iff Y2 (fn 125 Y3)
abbrev adS:E:=cmp .lss yn (.int 0)
abbrev Yo:E:=cmp .eql fU (fn 6 (pr (fn 134 (pr Y3 (.int 8))) (fn 135 (pr Y3 ci))))
abbrev acy:=[ME]
abbrev afy:E:=fn 123 (pr Y3 (fn 9 (pr (fn 1 (pr Y3 (.int 29))) (.int 5))))
abbrev Of:=Yo::QY
abbrev aVe:E:=cmp .lss (fn 6 (pr (.int 320) ci)) fU
abbrev akx:E:=.not aVe
abbrev aJm:=agB::Of
abbrev aFh:=akx::aJm
abbrev ai0:=nY::aFh
abbrev adK:=iE::ai0
abbrev bp:E:=var 24
abbrev o8:E:=cmp .lss bp (fn 9 (pr (fn 1 (pr Y3 (.int 0))) (.int 12)))
abbrev Ai:E:=cmp .lss (.int 0) bp
abbrev EP:=[o8,Ai]
abbrev RH:=nY::EP
abbrev pi:E:=.ar .sub .i64 bp (.int 1)
abbrev qa:E:=var 26
abbrev sA:E:=.iff qa (fn 137 (pr (fn 1 (pr (fn 1 (pr Y3 (.int 0))) (fn 6 (pr (fn 8 (pr bp (.int 12))) (.int 0))))) (pr (fn 1 (pr (fn 1 (pr Y3 (.int 0))) (fn 6 (pr (fn 8 (pr bp (.int 12))) (.int 1))))) (pr (fn 1 (pr (fn 1 (pr Y3 (.int 0))) (fn 6 (pr (fn 8 (pr bp (.int 12))) (.int 2))))) (pr (fn 1 (pr (fn 1 (pr Y3 (.int 0))) (fn 6 (pr (fn 8 (pr bp (.int 12))) (.int 3))))) (pr (fn 1 (pr (fn 1 (pr Y3 (.int 0))) (fn 6 (pr (fn 8 (pr bp (.int 12))) (.int 4))))) (pr (fn 1 (pr (fn 1 (pr Y3 (.int 0))) (fn 6 (pr (fn 8 (pr bp (.int 12))) (.int 5))))) (pr (fn 1 (pr (fn 1 (pr Y3 (.int 0))) (fn 6 (pr (fn 8 (pr bp (.int 12))) (.int 6))))) (pr (fn 1 (pr (fn 1 (pr Y3 (.int 0))) (fn 6 (pr (fn 8 (pr bp (.int 12))) (.int 7))))) (fn 1 (pr (fn 1 (pr Y3 (.int 0))) (fn 6 (pr (fn 8 (pr bp (.int 12))) (.int 8))))))))))))))
abbrev Qb:E:=fn 124 (pr Y3 bp)
abbrev YA:=nY::Mc
abbrev aaR:E:=fn 123 (pr Y3 eZ)
abbrev RN:E:=.not Ai
abbrev Il:E:=cmp .eql (var 27) (fn 122 (pr Y3 (pr (fn 1 (pr (fn 1 (pr Y3 (.int 0))) (fn 6 (pr (fn 8 (pr bp (.int 12))) (.int 2))))) (fn 1 (pr (fn 1 (pr Y3 (.int 0))) (fn 6 (pr (fn 8 (pr bp (.int 12))) (.int 0))))))))
abbrev DI:E:=cmp .eql (var 27) (.int 1)
abbrev avY:E:=cmp .lss bp (.int 0)
abbrev acO:E:=.not avY
abbrev am1:=[acO]
abbrev Xr:=Qb::am1
abbrev R9:=RN::am1
abbrev vq:E:=.ar .add .i64 bp (.int 1)
abbrev ap4:E:=cmp .lss vq (.int 0)
abbrev ahp:E:=.not ap4
abbrev Pn:E:=cmp .lss (fn 1 (pr (fn 1 (pr Y3 (.int 0))) (fn 6 (pr (fn 8 (pr pi (.int 12))) (.int 0))))) (fn 1 (pr (fn 1 (pr Y3 (.int 0))) (fn 6 (pr (fn 8 (pr bp (.int 12))) (.int 0)))))
abbrev aFt:=acO::gm
abbrev Ea:=Qb::aFt
abbrev VP:=o8::R9
abbrev aRF:E:=cmp .lss (fn 9 (pr (fn 1 (pr Y3 (.int 0))) (.int 12))) vq
abbrev afU:E:=.not aRF
abbrev afg:E:=fn 124 (pr Y3 vq)
abbrev afI:E:=cmp .lss (fn 7 (pr (fn 9 (pr (fn 1 (pr Y3 (.int 0))) (.int 12))) vq)) (fn 7 (pr (fn 9 (pr (fn 1 (pr Y3 (.int 0))) (.int 12))) bp))
abbrev aI7:E:=cmp .lss (fn 7 (pr (fn 9 (pr (fn 1 (pr Y3 (.int 0))) (.int 12))) vq)) (.int 0)
abbrev Yf:E:=.not aI7
def aoC:=fb ([Y1]) iU<|aq fun F p0=>by
 have:=(@dt F Y6 Y4 Y3 Y7 Y5 Y0)
 try simp only[aa]at *
 grind
def aIS:=fb ([(.not VO)]) Cg<|aq fun F p0=>by
 have:=An F (pr Y0 (.int 2))
 try simp only[aa]at *
 grind
def aCU:=fb (sB::VO::Lq::(.not Ln)::Y33) iU<|bE fun F p0 p1 p2 p3 p4 p5 p6 p7 p8 p9=>by
 have:=(@dt F Y6 Y4 Y3 Y7 Y5 Y0)
 try simp only[aa]at *
 grind
def ayA:=fb ([R0,Y7]) iU<|ak fun F p0 p1=>by
 have:=(@dt F Y6 Y4 Y3 Y7 Y5 Y0)
 try simp only[aa]at *
 grind
def aqG:=fb ([R0,(.not Lt)]) Cg<|ak fun F p0 p1=>by
 simp_all
def aLt:=fb ([Ln]) iU<|aq fun F p0=>by
 have:=(@dt F Y6 Y4 Y3 Y7 Y5 Y0)
 try simp only[aa]at *
 grind
def aPn:=fb ([Lt]) iU<|aq fun F p0=>by
 have:=(@dt F Y6 Y4 Y3 Y7 Y5 Y0)
 try simp only[aa]at *
 grind
def aqh:=fb ([Vh]) iU<|aq fun F p0=>by
 have:=(@dt F Y6 Y4 Y3 Y7 Y5 Y0)
 try simp only[aa]at *
 grind
def auk:=fb ([Nj]) iU<|aq fun F p0=>by
 have:=(@dt F Y6 Y4 Y3 Y7 Y5 Y0)
 try simp only[aa]at *
 grind
def aQv:=fb ([Y23]) iU<|aq fun F p0=>by
 have:=(@dt F Y6 Y4 Y3 Y7 Y5 Y0)
 try simp only[aa]at *
 grind
def aJS:=fb ([Y24]) iU<|aq fun F p0=>by
 have:=(@dt F Y6 Y4 Y3 Y7 Y5 Y0)
 try simp only[aa]at *
 grind
def aTv:=fb ([Y25]) iU<|aq fun F p0=>by
 have:=(@dt F Y6 Y4 Y3 Y7 Y5 Y0)
 try simp only[aa]at *
 grind
def aO1:=fb ([sB]) y7<|aq fun F p0=>by
 simp_all
def aUR:=fb ([(.not Y7)]) y7<|aq fun F p0=>by
 simp_all
def aNQ:=fa ((fn 101 (pr Y0 (.int 0))))<|fun F=>by
 rfl
def aXi:=fb (lI::zt::Eo::(.not Gi)::Y43::(.not Y44)::(.not NC)::vb::y7::UE) iU<|AN fun F p0 p1 p2 p3 p4 p5 p6 p7 p8 p9 ai ao aw aD aG aH aT aY=>by
 have:=(@dt F Y6 Y4 Y3 Y7 Y5 Y0)
 have:=fun h0 h1=>@nw F _ _ (fn 9 (pr Y0 (.int 2))) h0 h1 (fn 1 _) (fn 1 (pr Y0 (fn 6 (pr (fn 8 (pr aX _)) _)))) rfl rfl
 try simp only[aa]at *
 grind
def aNs:=fb ([Cg]) Cg<|aq fun F p0=>by
 omega
def awU:=fb (lI::zt::Eo::Gi::nq) iU<|aB fun F p0 p1 p2 p3 p4=>by
 have:=(@dt F Y6 Y4 Y3 Y7 Y5 Y0)
 have:=fun h0 h1=>@nw F _ _ (fn 9 (pr Y0 (.int 2))) h0 h1 _ (fn 1 (pr Y0 (fn 6 (pr (fn 8 (pr aX _)) _)))) rfl rfl
 try simp only[aa]at *
 grind
def aDQ:=fb (lI::zt::Y40::nq) iU<|aj fun F p0 p1 p2 p3=>by
 have:=(@dt F Y6 Y4 Y3 Y7 Y5 Y0)
 have:=fun h0 h1=>@nw F _ _ (fn 9 (pr Y0 (.int 2))) h0 h1 _ (fn 1 (pr Y0 (fn 6 (pr (fn 8 (pr aX _)) _)))) rfl rfl
 try simp only[aa]at *
 grind
def aQE:=fb (lI::zt::NC::nq) iU<|aj fun F p0 p1 p2 p3=>by
 have:=(@dt F Y6 Y4 Y3 Y7 Y5 Y0)
 have:=fun h0 h1=>@nw F _ _ (fn 9 (pr Y0 (.int 2))) h0 h1 (fn 1 _) (fn 1 (pr Y0 (fn 6 (pr (fn 8 (pr aX _)) _)))) rfl rfl
 try simp only[aa]at *
 grind
def aDF:=fb (lI::Y38::nq) iU<|af fun F p0 p1 p2=>by
 have:=(@dt F Y6 Y4 Y3 Y7 Y5 Y0)
 have:=fun h0 h1=>@nw F _ _ (fn 9 (pr Y0 (.int 2))) h0 h1 (fn 1 _) (fn 1 (pr Y0 (fn 6 (pr (fn 8 (pr aX _)) _)))) rfl rfl
 try simp only[aa]at *
 grind
def aOk:=fb ((.not lI)::Y53::y7::Cg::UE) (.iff (.bool true) Y12)<|fV fun F p0 p1 p2 p3 p4 p5 p6 p7 p8 p9 ai ao aw=>by
 have:=(@dt F Y6 Y4 Y3 Y7 Y5 Y0)
 have:=fun h1=>@ajf F _ _ (fn 9 (pr Y0 (.int 2))) p1 h1
 try simp only[aa]at *
 grind
def ayC:=fb ([y7]) y7<|aq fun F p0=>by
 omega
def aYj:=fb (lI::QI) MO<|af fun F p0 p1 p2=>by
 try simp only[aa,ab]at *
 obtain⟨a3,ea3,qa3⟩:=ae ((E.I F aX)+(1))
 omega
def aya:=fb (lI::nq) (.not (cmp .lss (fn 9 (pr Y0 (.int 2))) ff))<|ak fun F p0 p1=>by
 try simp only[aa,ab]at *
 obtain⟨a3,ea3,qa3⟩:=ae ((E.I F aX)+(1))
 omega
def aVH:=fb (lI::zt::Eo::(.not Gi)::Y44::Y60) Y61<|bh fun F p0 p1 p2 p3 p4 p5 p6 p7 p8=>by
 have:=@am F aX (.int 1)
 have:=fun h0 hm=>@FQ F _ ff _ p6 h0 hm (fn 1 _) (fn 1 _) rfl rfl
 try simp only[aa]at *
 grind
def aDn:=fb (lI::zt::Eo::(.not Gi)::(.not Y43)::Y60) Y61<|bh fun F p0 p1 p2 p3 p4 p5 p6 p7 p8=>by
 have:=@am F aX (.int 1)
 have:=fun h0 hm=>@FQ F _ ff _ p6 h0 hm (fn 1 _) (fn 1 _) rfl rfl
 try simp only[aa]at *
 grind
def aEa:=fb (lI::QI) (cmp .lss (fn 7 (pr (fn 9 (pr Y0 (.int 2))) ff)) (fn 7 (pr (fn 9 (pr Y0 (.int 2))) aX)))<|af fun F p0 p1 p2=>by
 try simp only[aa,ab]at *
 obtain⟨a3,ea3,qa3⟩:=ae ((E.I F aX)+(1))
 omega
def aFR:=fb (lI::nq) (.not (cmp .lss (fn 7 (pr (fn 9 (pr Y0 (.int 2))) ff)) (.int 0)))<|ak fun F p0 p1=>by
 try simp only[aa,ab]at *
 obtain⟨a3,ea3,qa3⟩:=ae ((E.I F aX)+(1))
 omega
def bP:List Fa:=[aoC,aIS,aCU,ayA,aqG,aLt,aPn,aqh,auk,aQv,aJS,aTv,G13,aO1,aUR,aNQ,aXi,aNs,awU,aDQ,aQE,aDF,aOk,ayC,aYj,aya,aVH,aDn,aEa,aFR]
theorem aL4:aN Try.prog (aZ (aKH)):=sc bP (azg) ahi ([]) (by kernel_rfl) (by kernel_rfl)
def ahV:Nl:=nc aL4 ahi
def azL:=fb Y67 MO<|af fun F p0 p1 p2=>by
 try simp only[aa,ab]at *
 obtain⟨a4,ea4,qa4⟩:=ae ((E.I F aX)+(1))
 omega
def awR:=fb ([(.not pm),Sz]) (cmp .eql mH (fn 121 (pr Y3 Y4)))<|ak fun F p0 p1=>by
 have:=@atz F Y3 Y4 aX
 try simp only[aa]at *
 grind
def ak2:=fb (pm::nq) (.not (cmp .lss (fn 0 Y3) ff))<|ak fun F p0 p1=>by
 try simp only[aa,ab]at *
 obtain⟨a4,ea4,qa4⟩:=ae ((E.I F aX)+(1))
 omega
def aX7:=fb ([(.not pm),QQ,Sz,(.not (cmp .lss (fn 0 Y3) aX))]) (.not (cmp .lss (fn 0 Y3) mH))<|aj fun F p0 p1 p2 p3=>by
 try simp only[aa]at *
 omega
def aG9:=fb (pm::Zs::Oz) (cmp .eql Sl (fn 131 (pr Y3 (pr Y4 ff))))<|bb fun F p0 p1 p2 p3 p4 p5 p6=>by
 have:=@am F aX (.int 1)
 have:=@Og F Y3 Y4 aX ff
 try simp only[aa,ab]at *
 obtain⟨a7,ea7,qa7⟩:=ae ((E.I F mH)+(1))
 omega
def aon:=fb (pm::(.not Zs)::Oz) (cmp .eql mH (fn 131 (pr Y3 (pr Y4 ff))))<|bb fun F p0 p1 p2 p3 p4 p5 p6=>by
 have:=@am F aX (.int 1)
 have:=@Og F Y3 Y4 aX ff
 try simp only[aa]at *
 grind
def aI6:=fb Y79 (.not (cmp .lss Sl (.int 0)))<|be fun F p0 p1 p2 p3 p4 p5=>by
 try simp only[aa,ab]at *
 obtain⟨a4,ea4,qa4⟩:=ae ((E.I F mH)+(1))
 omega
def aRW:=fb (pm::QQ::Y75) (.not (cmp .lss ff mH))<|aB fun F p0 p1 p2 p3 p4=>by
 try simp only[aa,ab]at *
 obtain⟨a4,ea4,qa4⟩:=ae ((E.I F aX)+(1))
 omega
def ata:=fb Y79 (.not (cmp .lss ff Sl))<|be fun F p0 p1 p2 p3 p4 p5=>by
 try simp only[aa,ab]at *
 obtain⟨a4,ea4,qa4⟩:=ae ((E.I F aX)+(1))
 obtain⟨a5,ea5,qa5⟩:=ae ((E.I F mH)+(1))
 omega
def ar1:=fb Y67 (cmp .lss (fn 7 (pr (fn 0 Y3) ff)) (fn 7 (pr (fn 0 Y3) aX)))<|af fun F p0 p1 p2=>by
 try simp only[aa,ab]at *
 obtain⟨a4,ea4,qa4⟩:=ae ((E.I F aX)+(1))
 omega
def aiM:=fb (pm::nq) (.not (cmp .lss (fn 7 (pr (fn 0 Y3) ff)) (.int 0)))<|ak fun F p0 p1=>by
 try simp only[aa,ab]at *
 obtain⟨a4,ea4,qa4⟩:=ae ((E.I F aX)+(1))
 omega
def bZ:List Fa:=[G39,azL,awR,ak2,aX7,aG9,aon,aI6,aRW,ata,ar1,aiM]
theorem aQc:aN Try.prog (aZ (aSh)):=sc bZ (aq5) ahV ([]) (by kernel_rfl) (by kernel_rfl)
def ajh:Nl:=nc aQc ahV
def aSB:=fa ((cmp .eql (fn 120 (pr Y3 (pr Y4 (.int 0)))) (.int (-1))))<|fun F=>by
 rfl
def aXl:=fb (Gw::Y81::LQ::nq) (cmp .eql aX (fn 120 (pr Y3 (pr Y4 (fn 9 (pr (fn 1 (pr Y3 (.int 0))) (.int 12)))))))<|aj fun F p0 p1 p2 p3=>by
 have:=fun h=>@adG F Y4 _ (fn 6 (pr aX (.int 1))) _ (fn 9 (pr (fn 1 (pr Y3 (.int 0))) (.int 12))) h (fn 1 (pr (fn 1 (pr Y3 _)) (fn 6 (pr (fn 8 (pr aX _)) _)))) rfl
 try simp only[aa]at *
 grind
def aLJ:=fb (nY::Je) MO<|af fun F p0 p1 p2=>by
 have:=ap p0
 try simp only[aa,ab]at *
 obtain⟨a3,ea3,qa3⟩:=ae ((E.I F aX)+(1))
 omega
def aRu:=fb ([(.not Gw),LQ,(.not (cmp .lss (fn 9 (pr (fn 1 (pr Y3 (.int 0))) (.int 12))) aX))]) (cmp .eql (fn 120 (pr Y3 (pr Y4 (fn 9 (pr (fn 1 (pr Y3 (.int 0))) (.int 12)))))) (.int (-1)))<|af fun F p0 p1 p2=>by
 have:=@aWE F Y4 aX (fn 9 (pr (fn 1 (pr Y3 (.int 0))) (.int 12))) Y3
 try simp only[aa]at *
 grind
def aWS:=fb Je (.not (cmp .lss (fn 9 (pr (fn 1 (pr Y3 (.int 0))) (.int 12))) ff))<|ak fun F p0 p1=>by
 try simp only[aa,ab]at *
 obtain⟨a3,ea3,qa3⟩:=ae ((E.I F aX)+(1))
 omega
def aNz:=fb (Gw::(.not Y81)::LQ::vb::gm) (cmp .eql (fn 120 (pr Y3 (pr Y4 ff))) (.int (-1)))<|aB fun F p0 p1 p2 p3 p4=>by
 have:=ap p4
 have:=@am F aX (.int 1)
 have:=fun h=>@adG F Y4 _ ff _ (fn 9 (pr (fn 1 (pr Y3 (.int 0))) (.int 12))) h (fn 1 (pr (fn 1 (pr Y3 _)) (fn 6 (pr (fn 8 (pr aX _)) _)))) rfl
 try simp only[aa]at *
 grind
def aWt:=fb (nY::Je) (cmp .lss (fn 7 (pr (fn 9 (pr (fn 1 (pr Y3 (.int 0))) (.int 12))) ff)) (fn 7 (pr (fn 9 (pr (fn 1 (pr Y3 (.int 0))) (.int 12))) aX)))<|af fun F p0 p1 p2=>by
 have:=ap p0
 try simp only[aa,ab]at *
 obtain⟨a3,ea3,qa3⟩:=ae ((E.I F aX)+(1))
 omega
def aCx:=fb Je (.not (cmp .lss (fn 7 (pr (fn 9 (pr (fn 1 (pr Y3 (.int 0))) (.int 12))) ff)) (.int 0)))<|ak fun F p0 p1=>by
 try simp only[aa,ab]at *
 obtain⟨a3,ea3,qa3⟩:=ae ((E.I F aX)+(1))
 omega
def ck:List Fa:=[NL,aSB,aXl,aLJ,aRu,aWS,aNz,aWt,aCx]
theorem ayH:aN Try.prog (aZ (aSx)):=sc ck (aYw) ajh ([]) (by kernel_rfl) (by kernel_rfl)
def alU:Nl:=nc ayH ajh
def aAe:=fb gm (.not (cmp .lss (.int 1000) (fn 0 (fn 1 (pr Y3 (.int 6))))))<|aq fun F p0=>by
 have:=ap p0
 try simp only[aa]at *
 omega
def aHf:=fb gm (.not (cmp .lss (.int 1000) (fn 0 (fn 1 (pr Y3 (.int 20))))))<|aq fun F p0=>by
 have:=ap p0
 try simp only[aa]at *
 omega
def aGh:=fb gm (.not (cmp .lss (.int 1000) (fn 0 (fn 1 (pr Y3 (.int 7))))))<|aq fun F p0=>by
 have:=ap p0
 try simp only[aa]at *
 omega
def axH:=fb gm (.not (cmp .lss (.int 1000) (fn 0 (fn 1 (pr Y3 (.int 21))))))<|aq fun F p0=>by
 have:=ap p0
 try simp only[aa]at *
 omega
def Uz:=fb gm (.not (cmp .lss (.int 1000) (fn 0 (fn 1 (pr Y3 (.int 8))))))<|aq fun F p0=>by
 have:=ap p0
 try simp only[aa]at *
 omega
def acb:=fb gm (.not (cmp .lss (.int 1000) (fn 0 (fn 1 (pr Y3 (.int 22))))))<|aq fun F p0=>by
 have:=ap p0
 try simp only[aa]at *
 omega
def aL2:=fb gm (.not (cmp .lss (.int 1000) (fn 0 (fn 1 (pr Y3 (.int 9))))))<|aq fun F p0=>by
 have:=ap p0
 try simp only[aa]at *
 omega
def aHg:=fb gm (.not (cmp .lss (.int 1000) (fn 0 (fn 1 (pr Y3 (.int 23))))))<|aq fun F p0=>by
 have:=ap p0
 try simp only[aa]at *
 omega
def aXW:=fb (Y86::Nf) Wz<|ub fun F p0 p1 p2 p3 p4 p5 p6 p7 p8 p9 ai ao aw aD=>by
 have:=ap aD
 have:=@aRD F Y5 Y4 Y3
 have:=@Yr F Y5 Y4 Y3 (.int 0)
 try simp only[aa,ab]at *
 obtain⟨a15,ea15,qa15⟩:=ae ((0)+(E.I F Y6))
 try simp only[ea15]at *
 obtain⟨a16,ea16,qa16⟩:=ae (a15+(E.I F Y0))
 try simp only[ea16]at *
 obtain⟨a17,ea17,qa17⟩:=ae (a16+(E.I F Y7))
 try simp only[ea17]at *
 obtain⟨a18,ea18,qa18⟩:=ae (a17+(E.I F dN))
 omega
def aAu:=fb ((.not Y86)::aa4::sB::ahc::amB::HD::XB::am7::l5::agR::aeG::pY::YT::(.not (cmp .lss (.int 1) Y4))::Lb::gm) Wz<|pQ fun F p0 p1 p2 p3 p4 p5 p6 p7 p8 p9 ai ao aw aD aG aH=>by
 have:=ap aH
 have:=@aGw F Y5 Y4 Y3
 have:=@Yr F Y5 Y4 Y3 (.int 0)
 try simp only[aa,ab]at *
 obtain⟨a15,ea15,qa15⟩:=ae ((0)+(E.I F Y6))
 try simp only[ea15]at *
 obtain⟨a16,ea16,qa16⟩:=ae (a15+(E.I F Y0))
 try simp only[ea16]at *
 obtain⟨a17,ea17,qa17⟩:=ae (a16+(E.I F Y7))
 try simp only[ea17]at *
 obtain⟨a18,ea18,qa18⟩:=ae (a17+(E.I F dN))
 omega
def avv:=fb Nf abK<|fV fun F p0 p1 p2 p3 p4 p5 p6 p7 p8 p9 ai ao aw=>by
 have:=ap aw
 try simp only[aa,ab]at *
 obtain⟨a12,ea12,qa12⟩:=ae ((0)+(E.I F Y6))
 try simp only[ea12]at *
 obtain⟨a13,ea13,qa13⟩:=ae (a12+(E.I F Y0))
 try simp only[ea13]at *
 obtain⟨a14,ea14,qa14⟩:=ae (a13+(E.I F Y7))
 try simp only[ea14]at *
 obtain⟨a15,ea15,qa15⟩:=ae (a14+(E.I F dN))
 omega
def aTg:=fb aeH abK<|fV fun F p0 p1 p2 p3 p4 p5 p6 p7 p8 p9 ai ao aw=>by
 have:=ap aw
 try simp only[aa,ab]at *
 obtain⟨a12,ea12,qa12⟩:=ae ((0)+(E.I F Y6))
 try simp only[ea12]at *
 obtain⟨a13,ea13,qa13⟩:=ae (a12+(E.I F Y0))
 try simp only[ea13]at *
 obtain⟨a14,ea14,qa14⟩:=ae (a13+(E.I F Y7))
 try simp only[ea14]at *
 obtain⟨a15,ea15,qa15⟩:=ae (a14+(E.I F dN))
 omega
def atq:=fb Nf anx<|fV fun F p0 p1 p2 p3 p4 p5 p6 p7 p8 p9 ai ao aw=>by
 have:=ap aw
 try simp only[aa,ab]at *
 obtain⟨a12,ea12,qa12⟩:=ae ((0)+(E.I F Y6))
 try simp only[ea12]at *
 obtain⟨a13,ea13,qa13⟩:=ae (a12+(E.I F Y0))
 try simp only[ea13]at *
 obtain⟨a14,ea14,qa14⟩:=ae (a13+(E.I F Y7))
 try simp only[ea14]at *
 obtain⟨a15,ea15,qa15⟩:=ae (a14+(E.I F dN))
 omega
def aFO:=fb aeH anx<|fV fun F p0 p1 p2 p3 p4 p5 p6 p7 p8 p9 ai ao aw=>by
 have:=ap aw
 try simp only[aa,ab]at *
 obtain⟨a12,ea12,qa12⟩:=ae ((0)+(E.I F Y6))
 try simp only[ea12]at *
 obtain⟨a13,ea13,qa13⟩:=ae (a12+(E.I F Y0))
 try simp only[ea13]at *
 obtain⟨a14,ea14,qa14⟩:=ae (a13+(E.I F Y7))
 try simp only[ea14]at *
 obtain⟨a15,ea15,qa15⟩:=ae (a14+(E.I F dN))
 omega
def ahN:=fb H4 (.not (cmp .lss eZ (.int 0)))<|af fun F p0 p1 p2=>by
 have:=ap p0
 try simp only[aa,ab]at *
 obtain⟨a5,ea5,qa5⟩:=ae ((E.I F ci)+(1))
 omega
def aKv:=fb ([Fj,Oh,ME,Lb]) (cmp .eql fU (fn 122 (pr Y3 (pr Y4 Y5))))<|aj fun F p0 p1 p2 p3=>by
 have:=@aUz F Y5 Y4 Y3 ci
 try simp only[aa]at *
 grind
def alI:=fb H4 (.not (cmp .lss (fn 9 (pr (fn 1 (pr Y3 (.int 29))) (.int 5))) eZ))<|af fun F p0 p1 p2=>by
 try simp only[aa,ab]at *
 obtain⟨a5,ea5,qa5⟩:=ae ((E.I F ci)+(1))
 omega
def ay8:=fb (Fj::NE::Oh::ME::gm) (.not (cmp .lss (.int 1000) fU))<|aB fun F p0 p1 p2 p3 p4=>by
 have:=ap p4
 try simp only[aa]at *
 omega
def as2:=fb (iE::ami::VL::alV::ame) (cmp .eql Du (fn 6 (pr (fn 132 (pr Y3 (pr Y4 (pr (.int 4) Y5)))) (fn 133 (pr Y3 (pr Y4 (pr Y5 eZ)))))))<|bh fun F p0 p1 p2 p3 p4 p5 p6 p7 p8=>by
 have:=ap p8
 have:=@am F ci (.int 1)
 have:=@FD F Y5 Y4 eZ _ _ _ _ (fn 1 (pr (fn 1 (pr Y3 _)) (fn 6 (pr (fn 8 (pr ci _)) _)))) rfl rfl rfl
 try simp only[aa,ab]at *
 obtain⟨a11,ea11,qa11⟩:=ae ((E.I F fU)+(1))
 omega
def aR8:=fb (iE::(.not alV)::Dx) RQ<|aB fun F p0 p1 p2 p3 p4=>by
 have:=ap p4
 have:=@am F ci (.int 1)
 have:=@FD F Y5 Y4 eZ _ _ _ _ (fn 1 (pr (fn 1 (pr Y3 _)) (fn 6 (pr (fn 8 (pr ci _)) _)))) rfl rfl rfl
 try simp only[aa]at *
 grind
def aF6:=fb (iE::(.not VL)::Dx) RQ<|aB fun F p0 p1 p2 p3 p4=>by
 have:=ap p4
 have:=@am F ci (.int 1)
 have:=@FD F Y5 Y4 eZ _ _ _ _ (fn 1 (pr (fn 1 (pr Y3 _)) (fn 6 (pr (fn 8 (pr ci _)) _)))) rfl rfl rfl
 try simp only[aa]at *
 grind
def asD:=fb (iE::(.not ami)::Dx) RQ<|aB fun F p0 p1 p2 p3 p4=>by
 have:=ap p4
 have:=@am F ci (.int 1)
 have:=@FD F Y5 Y4 eZ _ _ _ _ (fn 1 (pr (fn 1 (pr Y3 _)) (fn 6 (pr (fn 8 (pr ci _)) _)))) rfl rfl rfl
 try simp only[aa]at *
 grind
def aN6:=fb Xg ai3<|be fun F p0 p1 p2 p3 p4 p5=>by
 have:=ap p5
 try simp only[aa,ab]at *
 obtain⟨a5,ea5,qa5⟩:=ae ((E.I F fU)+(1))
 omega
def axm:=fb (iE::NE::Dx) (.not (cmp .lss (fn 6 (pr (.int 160) eZ)) fU))<|aB fun F p0 p1 p2 p3 p4=>by
 have:=ap p4
 try simp only[aa,ab]at *
 obtain⟨a5,ea5,qa5⟩:=ae ((E.I F ci)+(1))
 omega
def aBO:=fb Xg (.not (cmp .lss (fn 6 (pr (.int 160) eZ)) Du))<|be fun F p0 p1 p2 p3 p4 p5=>by
 have:=ap p5
 try simp only[aa,ab]at *
 obtain⟨a5,ea5,qa5⟩:=ae ((E.I F ci)+(1))
 obtain⟨a6,ea6,qa6⟩:=ae ((E.I F fU)+(1))
 omega
def adu:=fb H4 (cmp .lss (fn 7 (pr (fn 9 (pr (fn 1 (pr Y3 (.int 29))) (.int 5))) eZ)) (fn 7 (pr (fn 9 (pr (fn 1 (pr Y3 (.int 29))) (.int 5))) ci)))<|af fun F p0 p1 p2=>by
 have:=ap p0
 try simp only[aa,ab]at *
 obtain⟨a5,ea5,qa5⟩:=ae ((E.I F ci)+(1))
 omega
def ZP:=fb H4 (.not (cmp .lss (fn 7 (pr (fn 9 (pr (fn 1 (pr Y3 (.int 29))) (.int 5))) eZ)) (.int 0)))<|af fun F p0 p1 p2=>by
 try simp only[aa,ab]at *
 obtain⟨a5,ea5,qa5⟩:=ae ((E.I F ci)+(1))
 omega
def cO:List Fa:=[aAe,aHf,aGh,axH,Uz,acb,aL2,aHg,zz,aXW,aAu,avv,aTg,atq,aFO,ahN,aKv,alI,ay8,as2,aR8,aF6,asD,aN6,axm,aBO,adu,ZP]
theorem aIK:aN Try.prog (aZ (aFH)):=sc cO (aqg) alU ([]) (by kernel_rfl) (by kernel_rfl)
def YK:Nl:=nc aIK alU
def aNN:=fb ([jd,jb,kJ,adC]) lE<|aj fun F p0 p1 p2 p3=>by
 have:=@cv F Y3 Y4 Y5 Y6 Y0 Y7 dN gO aX
 try simp only[aa]at *
 grind
def aP6:=fb (jd::jb::kJ::lV::Lb::nA::(.not pB)::Zf) lE<|bh fun F p0 p1 p2 p3 p4 p5 p6 p7 p8=>by
 have:=@cv F Y3 Y4 Y5 Y6 Y0 Y7 dN gO aX
 try simp only[aa]at *
 grind
def aLv:=fb ([jd,jb,kJ,lV,nA,pB,Y96]) lE<|bb fun F p0 p1 p2 p3 p4 p5 p6=>by
 have:=@cv F Y3 Y4 Y5 Y6 Y0 Y7 dN gO aX
 try simp only[aa]at *
 grind
def aUX:=fb ([jd,jb,kJ,lV,nA,pB,l5,abu]) lE<|ba fun F p0 p1 p2 p3 p4 p5 p6 p7=>by
 have:=@cv F Y3 Y4 Y5 Y6 Y0 Y7 dN gO aX
 try simp only[aa]at *
 grind
def aSs:=fb ([jd,jb,kJ,lV,nA,pB,l5,pY,akk]) lE<|bh fun F p0 p1 p2 p3 p4 p5 p6 p7 p8=>by
 have:=@cv F Y3 Y4 Y5 Y6 Y0 Y7 dN gO aX
 try simp only[aa]at *
 grind
def aNX:=fb ([jd,jb,kJ,lV,nA,pB,l5,pY,Hn,Y46]) lE<|bE fun F p0 p1 p2 p3 p4 p5 p6 p7 p8 p9=>by
 have:=@cv F Y3 Y4 Y5 Y6 Y0 Y7 dN gO aX
 try simp only[aa]at *
 grind
def arZ:=fb (jd::jb::kJ::lV::nA::pB::l5::pY::Hn::vb::Me::(.not Sm)::alR) anc<|Cw fun F p0 p1 p2 p3 p4 p5 p6 p7 p8 p9 ai ao aw aD aG=>by
 have:=@cv F Y3 Y4 Y5 Y6 Y0 Y7 dN gO aX
 try simp only[aa]at *
 grind
def aBl:=fb ([jd,jb,kJ,lV,nA,pB,l5,pY,Hn,WF]) lE<|bE fun F p0 p1 p2 p3 p4 p5 p6 p7 p8 p9=>by
 have:=@cv F Y3 Y4 Y5 Y6 Y0 Y7 dN gO aX
 try simp only[aa]at *
 grind
def aG8:=fb ([jd,jb,kJ,lV,nA,pB,l5,pY,akD]) lE<|bh fun F p0 p1 p2 p3 p4 p5 p6 p7 p8=>by
 have:=@cv F Y3 Y4 Y5 Y6 Y0 Y7 dN gO aX
 try simp only[aa]at *
 grind
def at6:=fb ([jd,jb,kJ,lV,nA,pB,l5,ah9]) lE<|ba fun F p0 p1 p2 p3 p4 p5 p6 p7=>by
 have:=@cv F Y3 Y4 Y5 Y6 Y0 Y7 dN gO aX
 try simp only[aa]at *
 grind
def aHX:=fb (jd::jb::kJ::lV::Lb::(.not nA)::Zf) lE<|ba fun F p0 p1 p2 p3 p4 p5 p6 p7=>by
 have:=@cv F Y3 Y4 Y5 Y6 Y0 Y7 dN gO aX
 try simp only[aa]at *
 grind
def aTm:=fb (jd::jb::kJ::lV::aaM::sB::HD::l5::pY::Hn::vb::Me::(.not (cmp .lss (.int 99) Y6))::(.not (cmp .lss (.int 99) Y0))::alR) anc<|EY fun F p0 p1 p2 p3 p4 p5 p6 p7 p8 p9 ai ao aw aD aG aH aT=>by
 have:=@cv F Y3 Y4 Y5 Y6 Y0 Y7 dN gO aX
 try simp only[aa]at *
 grind
def arc:=fb ([jd,jb,Nj]) lE<|af fun F p0 p1 p2=>by
 have:=@cv F Y3 Y4 Y5 Y6 Y0 Y7 dN gO aX
 try simp only[aa]at *
 grind
def aC5:=fb ([jd,jb,Sm]) lE<|af fun F p0 p1 p2=>by
 have:=@cv F Y3 Y4 Y5 Y6 Y0 Y7 dN gO aX
 try simp only[aa]at *
 grind
def df:List Fa:=[aNN,aP6,aLv,aUX,aSs,aNX,arZ,aBl,aG8,at6,aHX,YC,G67,G66,WC,G64,G63,aTm,G51,G50,W6,G48,G47,arc,aC5,G56,G57,Wp]
theorem as3:aN Try.prog (aZ (afi 71)):=sc df ([]) YK ([]) (by kernel_rfl) (by kernel_rfl)
def ahJ:Nl:=nc as3 YK
def aCZ:=fb gm (cmp .eql NF (fn 6 (pr (fn 134 (pr Y3 (.int 8))) (fn 135 (pr Y3 (.int 0))))))<|aq fun F p0=>by
 have:=ap p0
 have:=@aIg F Y3
 have:=@aty F Y3 (.int 0)
 try simp only[aa,ab]at *
 have:=@cf F (fn 1 (pr Y3 (.int 6)))
 have:=@cf F (fn 1 (pr Y3 (.int 7)))
 have:=@cf F (fn 1 (pr Y3 (.int 8)))
 have:=@cf F (fn 1 (pr Y3 (.int 9)))
 have:=@cf F (fn 1 (pr Y3 (.int 20)))
 have:=@cf F (fn 1 (pr Y3 (.int 21)))
 have:=@cf F (fn 1 (pr Y3 (.int 22)))
 have:=@cf F (fn 1 (pr Y3 (.int 23)))
 obtain⟨a10,ea10,qa10⟩:=ae ((0)+(E.I F (fn 0 (fn 1 (pr Y3 (.int 6))))))
 obtain⟨a11,ea11,qa11⟩:=ae (a10+(E.I F (fn 0 (fn 1 (pr Y3 (.int 7))))))
 obtain⟨a12,ea12,qa12⟩:=ae (a11+(E.I F (fn 0 (fn 1 (pr Y3 (.int 8))))))
 obtain⟨a13,ea13,qa13⟩:=ae (a12+(E.I F (fn 0 (fn 1 (pr Y3 (.int 9))))))
 obtain⟨a14,ea14,qa14⟩:=ae (a13+(E.I F (fn 0 (fn 1 (pr Y3 (.int 20))))))
 obtain⟨a15,ea15,qa15⟩:=ae (a14+(E.I F (fn 0 (fn 1 (pr Y3 (.int 21))))))
 obtain⟨a16,ea16,qa16⟩:=ae (a15+(E.I F (fn 0 (fn 1 (pr Y3 (.int 22))))))
 obtain⟨a17,ea17,qa17⟩:=ae (a16+(E.I F (fn 0 (fn 1 (pr Y3 (.int 23))))))
 grind
def aTd:=fb gm (.not (cmp .lss NF (.int 0)))<|aq fun F p0=>by
 have:=ap p0
 try simp only[aa,ab]at *
 have:=@cf F (fn 1 (pr Y3 (.int 6)))
 have:=@cf F (fn 1 (pr Y3 (.int 7)))
 have:=@cf F (fn 1 (pr Y3 (.int 8)))
 have:=@cf F (fn 1 (pr Y3 (.int 9)))
 have:=@cf F (fn 1 (pr Y3 (.int 20)))
 have:=@cf F (fn 1 (pr Y3 (.int 21)))
 have:=@cf F (fn 1 (pr Y3 (.int 22)))
 have:=@cf F (fn 1 (pr Y3 (.int 23)))
 obtain⟨a8,ea8,qa8⟩:=ae ((0)+(E.I F (fn 0 (fn 1 (pr Y3 (.int 6))))))
 obtain⟨a9,ea9,qa9⟩:=ae (a8+(E.I F (fn 0 (fn 1 (pr Y3 (.int 7))))))
 obtain⟨a10,ea10,qa10⟩:=ae (a9+(E.I F (fn 0 (fn 1 (pr Y3 (.int 8))))))
 obtain⟨a11,ea11,qa11⟩:=ae (a10+(E.I F (fn 0 (fn 1 (pr Y3 (.int 9))))))
 obtain⟨a12,ea12,qa12⟩:=ae (a11+(E.I F (fn 0 (fn 1 (pr Y3 (.int 20))))))
 obtain⟨a13,ea13,qa13⟩:=ae (a12+(E.I F (fn 0 (fn 1 (pr Y3 (.int 21))))))
 obtain⟨a14,ea14,qa14⟩:=ae (a13+(E.I F (fn 0 (fn 1 (pr Y3 (.int 22))))))
 obtain⟨a15,ea15,qa15⟩:=ae (a14+(E.I F (fn 0 (fn 1 (pr Y3 (.int 23))))))
 grind
def aJz:=fb gm (.not (cmp .lss (.int 320) NF))<|aq fun F p0=>by
 have:=ap p0
 try simp only[aa,ab]at *
 have:=@cf F (fn 1 (pr Y3 (.int 6)))
 have:=@cf F (fn 1 (pr Y3 (.int 7)))
 have:=@cf F (fn 1 (pr Y3 (.int 8)))
 have:=@cf F (fn 1 (pr Y3 (.int 9)))
 have:=@cf F (fn 1 (pr Y3 (.int 20)))
 have:=@cf F (fn 1 (pr Y3 (.int 21)))
 have:=@cf F (fn 1 (pr Y3 (.int 22)))
 have:=@cf F (fn 1 (pr Y3 (.int 23)))
 obtain⟨a8,ea8,qa8⟩:=ae ((0)+(E.I F (fn 0 (fn 1 (pr Y3 (.int 6))))))
 obtain⟨a9,ea9,qa9⟩:=ae (a8+(E.I F (fn 0 (fn 1 (pr Y3 (.int 7))))))
 obtain⟨a10,ea10,qa10⟩:=ae (a9+(E.I F (fn 0 (fn 1 (pr Y3 (.int 8))))))
 obtain⟨a11,ea11,qa11⟩:=ae (a10+(E.I F (fn 0 (fn 1 (pr Y3 (.int 9))))))
 obtain⟨a12,ea12,qa12⟩:=ae (a11+(E.I F (fn 0 (fn 1 (pr Y3 (.int 20))))))
 obtain⟨a13,ea13,qa13⟩:=ae (a12+(E.I F (fn 0 (fn 1 (pr Y3 (.int 21))))))
 obtain⟨a14,ea14,qa14⟩:=ae (a13+(E.I F (fn 0 (fn 1 (pr Y3 (.int 22))))))
 obtain⟨a15,ea15,qa15⟩:=ae (a14+(E.I F (fn 0 (fn 1 (pr Y3 (.int 23))))))
 grind
def atA:=fa ((fn 123 (pr Y3 (.int 0))))<|fun F=>by
 rfl
def aOP:=fb (iE::xC::SO::(.not TN)::Mc) w9<|be fun F p0 p1 p2 p3 p4 p5=>by
 have:=@JE F (fn 6 (pr ci (.int 1))) _ _ p4 _ _ _ _ (fn 1 (pr _ (fn 6 (pr (fn 8 (pr yn _)) _)))) rfl rfl rfl rfl
 try simp only[aa]at *
 grind
def aUg:=fb (iE::xC::SO::adS::Mc) w9<|be fun F p0 p1 p2 p3 p4 p5=>by
 have:=@JE F (fn 6 (pr ci (.int 1))) _ _ p4 _ _ _ _ (fn 1 (pr _ (fn 6 (pr (fn 8 (pr yn _)) _)))) rfl rfl rfl rfl
 try simp only[aa]at *
 grind
def aM3:=fb (Fj::Yo::acy) (cmp .eql fU (fn 6 (pr (fn 134 (pr Y3 (.int 8))) (fn 135 (pr Y3 (fn 9 (pr (fn 1 (pr Y3 (.int 29))) (.int 5))))))))<|af fun F p0 p1 p2=>by
 have:=@asO F (fn 9 (pr (fn 1 (pr Y3 (.int 29))) (.int 5))) Y3 ci
 try simp only[aa]at *
 grind
def aHk:=fb (Fj::nY::ajG::acy) afy<|aj fun F p0 p1 p2 p3=>by
 have g0:E.I F (fn 9 (pr (fn 1 (pr Y3 (.int 29))) (.int 5)))=E.I F ci:=by
  try simp only[aa]at *
  omega
 grind[aQL]
def aPq:=fb (iE::(.not xC)::nY::Of) (cmp .eql fU (fn 6 (pr (fn 134 (pr Y3 (.int 8))) (fn 135 (pr Y3 eZ)))))<|aB fun F p0 p1 p2 p3 p4=>by
 have:=ap p2
 have:=@am F ci (.int 1)
 have:=@acu F eZ _ _ (fn 1 (pr (fn 1 (pr Y3 _)) (fn 6 (pr (fn 8 (pr ci _)) _)))) rfl
 try simp only[aa]at *
 grind
def aHP:=fb (iE::xC::ai0) (cmp .eql Du (fn 6 (pr (fn 134 (pr Y3 (.int 8))) (fn 135 (pr Y3 eZ)))))<|bb fun F p0 p1 p2 p3 p4 p5 p6=>by
 have:=ap p2
 have:=@am F ci (.int 1)
 have:=@acu F eZ _ _ (fn 1 (pr (fn 1 (pr Y3 _)) (fn 6 (pr (fn 8 (pr ci _)) _)))) rfl
 try simp only[aa,ab]at *
 obtain⟨a9,ea9,qa9⟩:=ae ((E.I F fU)+(1))
 omega
def aKl:=fa ((fn 124 (pr Y3 (.int 0))))<|fun F=>by
 rfl
def azx:=fb (iE::nY::akx::Of) (.not (cmp .lss (fn 6 (pr (.int 320) eZ)) fU))<|aB fun F p0 p1 p2 p3 p4=>by
 have:=ap p1
 try simp only[aa,ab]at *
 obtain⟨a5,ea5,qa5⟩:=ae ((E.I F ci)+(1))
 omega
def aGH:=fb adK ai3<|be fun F p0 p1 p2 p3 p4 p5=>by
 have:=ap p1
 try simp only[aa,ab]at *
 obtain⟨a7,ea7,qa7⟩:=ae ((E.I F fU)+(1))
 omega
def aVZ:=fb RH (.not (cmp .lss pi (.int 0)))<|af fun F p0 p1 p2=>by
 have:=ap p0
 try simp only[aa,ab]at *
 obtain⟨a5,ea5,qa5⟩:=ae ((E.I F bp)-(1))
 omega
def aU8:=fb ([sA,qa]) (.not (cmp .lss (fn 1 (pr (fn 1 (pr Y3 (.int 0))) (fn 6 (pr (fn 8 (pr bp (.int 12))) (.int 2))))) (.int 0)))<|ak fun F p0 p1=>by
 have:=@cv F (fn 1 (pr (fn 1 (pr Y3 (.int 0))) (fn 6 (pr (fn 8 (pr bp (.int 12))) (.int 0))))) (fn 1 (pr (fn 1 (pr Y3 (.int 0))) (fn 6 (pr (fn 8 (pr bp (.int 12))) (.int 1))))) (fn 1 (pr (fn 1 (pr Y3 (.int 0))) (fn 6 (pr (fn 8 (pr bp (.int 12))) (.int 2))))) (fn 1 (pr (fn 1 (pr Y3 (.int 0))) (fn 6 (pr (fn 8 (pr bp (.int 12))) (.int 3))))) (fn 1 (pr (fn 1 (pr Y3 (.int 0))) (fn 6 (pr (fn 8 (pr bp (.int 12))) (.int 4))))) (fn 1 (pr (fn 1 (pr Y3 (.int 0))) (fn 6 (pr (fn 8 (pr bp (.int 12))) (.int 5))))) (fn 1 (pr (fn 1 (pr Y3 (.int 0))) (fn 6 (pr (fn 8 (pr bp (.int 12))) (.int 6))))) (fn 1 (pr (fn 1 (pr Y3 (.int 0))) (fn 6 (pr (fn 8 (pr bp (.int 12))) (.int 7))))) (fn 1 (pr (fn 1 (pr Y3 (.int 0))) (fn 6 (pr (fn 8 (pr bp (.int 12))) (.int 8)))))
 try simp only[aa]at *
 grind
def aGf:=fb ([(.not o8),Qb,afy,(cmp .eql (var 25) (fn 6 (pr (fn 134 (pr Y3 (.int 8))) (fn 135 (pr Y3 (fn 9 (pr (fn 1 (pr Y3 (.int 29))) (.int 5)))))))),(.not (cmp .lss (fn 9 (pr (fn 1 (pr Y3 (.int 0))) (.int 12))) bp))]) (.iff (cmp .eql (var 25) (fn 9 (pr (fn 1 (pr Y3 (.int 0))) (.int 12)))) (fn 125 Y3))<|aB fun F p0 p1 p2 p3 p4=>by
 have:=@apt F _ _ (var 25) p2 p1
 try simp only[aa]at *
 grind
def aMd:=fb (iE::(.not xC)::YA) aaR<|aB fun F p0 p1 p2 p3 p4=>by
 have:=ap p2
 have:=@am F ci (.int 1)
 have:=@JE F eZ _ _ p3 _ _ _ _ (fn 1 (pr _ (fn 6 (pr (fn 8 (pr (.int 0) _)) _)))) rfl rfl rfl rfl
 try simp only[aa]at *
 grind
def aOG:=fb adK (.not (cmp .lss (fn 6 (pr (.int 320) eZ)) Du))<|be fun F p0 p1 p2 p3 p4 p5=>by
 have:=ap p1
 try simp only[aa,ab]at *
 obtain⟨a7,ea7,qa7⟩:=ae ((E.I F ci)+(1))
 obtain⟨a8,ea8,qa8⟩:=ae ((E.I F fU)+(1))
 omega
def aQz:=fb EP (cmp .lss pi (fn 9 (pr (fn 1 (pr Y3 (.int 0))) (.int 12))))<|ak fun F p0 p1=>by
 try simp only[aa,ab]at *
 obtain⟨a5,ea5,qa5⟩:=ae ((E.I F bp)-(1))
 omega
def aSv:=fb ([sA,qa]) (.not (cmp .lss (.int 1) (fn 1 (pr (fn 1 (pr Y3 (.int 0))) (fn 6 (pr (fn 8 (pr bp (.int 12))) (.int 2)))))))<|ak fun F p0 p1=>by
 have:=@cv F (fn 1 (pr (fn 1 (pr Y3 (.int 0))) (fn 6 (pr (fn 8 (pr bp (.int 12))) (.int 0))))) (fn 1 (pr (fn 1 (pr Y3 (.int 0))) (fn 6 (pr (fn 8 (pr bp (.int 12))) (.int 1))))) (fn 1 (pr (fn 1 (pr Y3 (.int 0))) (fn 6 (pr (fn 8 (pr bp (.int 12))) (.int 2))))) (fn 1 (pr (fn 1 (pr Y3 (.int 0))) (fn 6 (pr (fn 8 (pr bp (.int 12))) (.int 3))))) (fn 1 (pr (fn 1 (pr Y3 (.int 0))) (fn 6 (pr (fn 8 (pr bp (.int 12))) (.int 4))))) (fn 1 (pr (fn 1 (pr Y3 (.int 0))) (fn 6 (pr (fn 8 (pr bp (.int 12))) (.int 5))))) (fn 1 (pr (fn 1 (pr Y3 (.int 0))) (fn 6 (pr (fn 8 (pr bp (.int 12))) (.int 6))))) (fn 1 (pr (fn 1 (pr Y3 (.int 0))) (fn 6 (pr (fn 8 (pr bp (.int 12))) (.int 7))))) (fn 1 (pr (fn 1 (pr Y3 (.int 0))) (fn 6 (pr (fn 8 (pr bp (.int 12))) (.int 8)))))
 try simp only[aa]at *
 grind
def aMc:=fb (iE::xC::SO::(.not adS)::TN::YA) aaR<|ba fun F p0 p1 p2 p3 p4 p5 p6 p7=>by
 have:=ap p5
 have:=@am F ci (.int 1)
 have:=@JE F eZ _ _ p6 _ _ _ _ (fn 1 (pr _ (fn 6 (pr (fn 8 (pr yn _)) _)))) rfl rfl rfl rfl
 try simp only[aa]at *
 grind
def aNR:=fb (o8::sA::qa::RN::Il::(.not DI)::Xr) w9<|ba fun F p0 p1 p2 p3 p4 p5 p6 p7=>by
 have:=@xn F _ (fn 6 (pr bp (.int 1))) _ p6 pi _ _ _ _ _ _ _ _ _ rfl rfl rfl rfl rfl rfl rfl rfl rfl
 try simp only[aa]at *
 grind
def aFF:=fb R9 ahp<|ak fun F p0 p1=>by
 try simp only[aa,ab]at *
 obtain⟨a6,ea6,qa6⟩:=ae ((E.I F bp)+(1))
 omega
def aXp:=fb (o8::sA::qa::Ai::Pn::Il::(.not DI)::Ea) w9<|bE fun F p0 p1 p2 p3 p4 p5 p6 p7 p8 p9=>by
 have:=ap p9
 have:=@aK F bp (.int 1)
 have:=@xn F _ (fn 6 (pr bp (.int 1))) _ p7 pi _ _ _ _ _ _ _ _ _ rfl rfl rfl rfl rfl rfl rfl rfl rfl
 try simp only[aa]at *
 grind
def aXP:=fb RH ahp<|af fun F p0 p1 p2=>by
 have:=ap p0
 try simp only[aa,ab]at *
 obtain⟨a7,ea7,qa7⟩:=ae ((E.I F bp)+(1))
 omega
def aQ4:=fb (o8::sA::qa::Ai::(.not Pn)::Ea) w9<|ba fun F p0 p1 p2 p3 p4 p5 p6 p7=>by
 have:=ap p7
 have:=@aK F bp (.int 1)
 have:=@xn F _ (fn 6 (pr bp (.int 1))) _ p5 pi _ _ _ _ _ _ _ _ _ rfl rfl rfl rfl rfl rfl rfl rfl rfl
 try simp only[aa]at *
 grind
def aD8:=fb (o8::sA::(.not qa)::Ea) w9<|be fun F p0 p1 p2 p3 p4 p5=>by
 have:=ap p5
 have:=@aK F bp (.int 1)
 have:=@xn F _ (fn 6 (pr bp (.int 1))) _ p3 pi _ _ _ _ _ _ _ _ _ rfl rfl rfl rfl rfl rfl rfl rfl rfl
 try simp only[aa]at *
 grind
def aqB:=fb VP afU<|af fun F p0 p1 p2=>by
 try simp only[aa,ab]at *
 obtain⟨a7,ea7,qa7⟩:=ae ((E.I F bp)+(1))
 omega
def aEr:=fb EP afU<|ak fun F p0 p1=>by
 try simp only[aa,ab]at *
 obtain⟨a7,ea7,qa7⟩:=ae ((E.I F bp)+(1))
 omega
def aBQ:=fb (o8::sA::qa::RN::Il::DI::Xr) afg<|ba fun F p0 p1 p2 p3 p4 p5 p6 p7=>by
 have:=@am F bp (.int 1)
 have:=@xn F _ vq _ p6 pi _ _ _ _ _ _ _ _ _ rfl rfl rfl rfl rfl rfl rfl rfl rfl
 try simp only[aa]at *
 grind
def aqp:=fb (o8::sA::qa::Ai::Pn::Il::DI::Ea) afg<|bE fun F p0 p1 p2 p3 p4 p5 p6 p7 p8 p9=>by
 have:=ap p9
 have:=@aK F bp (.int 1)
 have:=@am F bp (.int 1)
 have:=@xn F _ vq _ p7 pi _ _ _ _ _ _ _ _ _ rfl rfl rfl rfl rfl rfl rfl rfl rfl
 try simp only[aa]at *
 grind
def aWL:=fb R9 afI<|ak fun F p0 p1=>by
 try simp only[aa,ab]at *
 obtain⟨a7,ea7,qa7⟩:=ae ((E.I F bp)+(1))
 omega
def aqj:=fb RH afI<|af fun F p0 p1 p2=>by
 have:=ap p0
 try simp only[aa,ab]at *
 obtain⟨a7,ea7,qa7⟩:=ae ((E.I F bp)+(1))
 omega
def aXv:=fb VP Yf<|af fun F p0 p1 p2=>by
 try simp only[aa,ab]at *
 obtain⟨a7,ea7,qa7⟩:=ae ((E.I F bp)+(1))
 omega
def aHC:=fb EP Yf<|ak fun F p0 p1=>by
 try simp only[aa,ab]at *
 obtain⟨a7,ea7,qa7⟩:=ae ((E.I F bp)+(1))
 omega
def dC:List Fa:=[zz,NL,aCZ,aTd,aJz,atA,ahN,aOP,aUg,aM3,alI,aHk,aPq,aHP,aKl,azx,aGH,aVZ,aU8,aGf,aMd,aOG,aQz,aSv,adu,aMc,ZP,aNR,aFF,aXp,aXP,aQ4,aD8,aqB,aEr,aBQ,aqp,aWL,aqj,aXv,aHC]
theorem aLl:aN Try.prog (aZ (ay4)):=sc dC (arp) ahJ ([]) (by kernel_rfl) (by kernel_rfl)
def Xl:Nl:=nc aLl ahJ
end
end Go.Proofs.Ytnnbmcfabojjjaa.payPlans
