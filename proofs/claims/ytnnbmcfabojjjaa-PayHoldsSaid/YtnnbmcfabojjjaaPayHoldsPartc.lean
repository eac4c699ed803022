/-
  PayHolds: contracts of functions, part 3.
-/
import Derived.Test.YtnnbmcfabojjjaaRows
import Derived.Test.YtnnbmcfabojjjaaNat
import Derived.WalkKit
import Derived.ProofKit
import Derived.OpenShut
import Derived.ChangeOld
import Derived.Below
import Derived.KernelRfl
import Derived.Lib.SmallJoins
import Derived.Laws.IdiomArrays
import Derived.Test.YtnnbmcfabojjjaaPayHoldsPartb
namespace Go.Proofs.Ytnnbmcfabojjjaa.payHolds
open Go.ChangeShapes Go.WideShapes Go.ChangeAt Go.RowKit
open Go.SX
open Go.SX.E (fn pr cmp var)
set_option linter.unusedVariables false
set_option linter.unusedSimpArgs false
set_option maxRecDepth 100000
noncomputable section
abbrev X0:E:=var 0
abbrev X1:E:=cmp .eql (fn 1 (pr X0 (.int 34))) (.int 0)
abbrev X2:E:=cmp .eql (.ar .sub .i64 (.int 1) (fn 1 (pr X0 (.int 34)))) (.int 0)
abbrev X3:E:=.not X2
abbrev X4:E:=cmp .eql (.ar .sub .i64 (.int 1) (fn 1 (pr X0 (.int 34)))) (.int 1)
abbrev X5:E:=cmp .lss (.int 1) (fn 1 (pr X0 (.int 34)))
abbrev X6:E:=.not X5
abbrev X7:E:=cmp .lss (fn 1 (pr X0 (.int 34))) (.int 0)
abbrev X8:E:=.not X7
abbrev X9:E:=fn 117 X0
abbrev qR:=[X9]
abbrev X11:=X8::qR
abbrev GP:=X6::X11
abbrev Rj:=X3::GP
abbrev LL:E:=pr X0 (pr (fn 1 (pr X0 (.int 34))) (.int 2))
abbrev X15:E:=pr (fn 1 (pr X0 (.int 22))) LL
abbrev X16:E:=fn 109 X15
abbrev M9:E:=pr X0 (pr (fn 7 (pr (.int 1) (fn 1 (pr X0 (.int 34))))) (.int 2))
abbrev X18:E:=pr (fn 1 (pr X0 (.int 22))) M9
abbrev TO:E:=fn 109 X18
abbrev X20:E:=pr (fn 1 (pr X0 (.int 8))) M9
abbrev X21:E:=fn 109 X20
abbrev dX:E:=var 8
abbrev vp:E:=cmp .lss dX (fn 0 (fn 1 (pr X0 (.int 31))))
abbrev zv:E:=var 9
abbrev lG:E:=.bool false
abbrev VS:E:=.not (fn 32 (pr zv (pr (fn 1 (pr (fn 1 (pr X0 (.int 31))) dX)) lG)))
abbrev X27:E:=cmp .lss (var 12) (.int 0)
abbrev X28:E:=.not X27
abbrev W4:E:=var 10
abbrev X30:E:=pr W4 (fn 1 (pr (fn 1 (pr X0 (.int 31))) dX))
abbrev X31:E:=fn 114 X30
abbrev X32:E:=.iff X28 X31
abbrev ua:E:=fn 108 X0
abbrev X34:E:=pr dX (.int 0)
abbrev X35:E:=pr X0 X34
abbrev X36:E:=pr zv X35
abbrev X37:E:=fn 113 X36
abbrev X38:E:=pr X0 dX
abbrev ZI:E:=fn 111 X38
abbrev X40:E:=cmp .lss dX (.int 0)
abbrev Xv:E:=.not X40
abbrev X42:E:=pr W4 LL
abbrev X43:E:=fn 109 X42
abbrev X44:=[X43]
abbrev X45:=Xv::X44
abbrev X46:=ZI::X45
abbrev Zt:=X37::X46
abbrev X48:=ua::Zt
abbrev X49:=X8::X48
abbrev Ui:=X6::X49
abbrev Na:E:=fn 110 X0
abbrev tS:E:=.iff lG Na
abbrev X53:=[Xv]
abbrev X54:=vp::X53
abbrev FH:=X9::X54
abbrev X56:E:=cmp .lss (fn 0 (fn 1 (pr X0 (.int 31)))) dX
abbrev X57:E:=.not X56
abbrev X58:=[X57]
abbrev CB:E:=fn 111 (pr X0 (fn 0 (fn 1 (pr X0 (.int 31)))))
abbrev X60:=X9::Zt
abbrev X61:=ua::X60
abbrev X62:=X8::X61
abbrev X63:=X6::X62
abbrev X64:=X28::X63
abbrev X65:=X32::X64
abbrev X66:=VS::X65
abbrev X67:=vp::X66
abbrev Eh:E:=.bool true
abbrev cg:E:=var 16
abbrev qN:E:=cmp .lss cg (fn 9 (pr (fn 1 (pr X0 (.int 32))) (.int 2)))
abbrev rz:E:=var 17
abbrev GF:E:=.not (fn 32 (pr rz (pr (.ar .sub .i64 (.int 0) (fn 1 (pr (fn 1 (pr X0 (.int 32))) (fn 6 (pr (fn 8 (pr cg (.int 2))) (.int 0)))))) lG)))
abbrev X73:E:=cmp .lss (var 21) (.int 0)
abbrev Vb:E:=.not X73
abbrev ZG:E:=var 19
abbrev X76:E:=pr ZG (fn 1 (pr (fn 1 (pr X0 (.int 32))) (fn 6 (pr (fn 8 (pr cg (.int 2))) (.int 0)))))
abbrev X77:E:=fn 114 X76
abbrev Rc:E:=.iff Vb X77
abbrev X79:E:=pr (fn 0 (fn 1 (pr X0 (.int 31)))) cg
abbrev X80:E:=pr X0 X79
abbrev X81:E:=pr rz X80
abbrev O5:E:=fn 113 X81
abbrev Ot:E:=fn 112 (pr X0 cg)
abbrev X84:E:=cmp .lss cg (.int 0)
abbrev HE:E:=.not X84
abbrev X86:E:=pr ZG M9
abbrev PB:E:=fn 109 X86
abbrev X88:=[X8,ua]
abbrev X89:=X6::X88
abbrev X90:=PB::X89
abbrev X91:=HE::X90
abbrev X92:=CB::X91
abbrev X93:=Ot::X92
abbrev DM:=O5::X93
abbrev X95:=[HE]
abbrev X96:=qN::X95
abbrev CL:=X9::X96
abbrev Ze:E:=cmp .lss (var 20) (.int 0)
abbrev Xy:E:=.not Ze
abbrev apL:E:=pr (fn 1 (pr X0 (.int 31))) (fn 1 (pr (fn 1 (pr X0 (.int 32))) (fn 6 (pr (fn 8 (pr cg (.int 2))) (.int 1)))))
abbrev as8:E:=fn 114 apL
abbrev Qw:E:=.iff Xy as8
abbrev aFL:=PB::X6::X8::ua::qR
abbrev aI9:=HE::aFL
abbrev aD8:=CB::aI9
abbrev ank:=Ot::aD8
abbrev amO:=O5::ank
abbrev ahD:=Vb::amO
abbrev aFG:=Rc::ahD
abbrev apQ:=Xy::aFG
abbrev azE:=Qw::apQ
abbrev azS:=GF::azE
abbrev au8:List E:=(fn 32 (pr rz (pr (fn 1 (pr (fn 1 (pr X0 (.int 32))) (fn 6 (pr (fn 8 (pr cg (.int 2))) (.int 1))))) lG)))::azS
abbrev VO:=qN::au8
abbrev cm:E:=.iff lG (fn 115 X0)
abbrev agG:E:=cmp .lss (fn 1 (pr X0 (.int 33))) (.int 0)
abbrev cO:E:=.not agG
abbrev abP:E:=cmp .lss (.int 1000) (fn 1 (pr X0 (.int 33)))
abbrev cW:E:=.not abP
abbrev abC:E:=cmp .lss (fn 1 (pr X0 (.int 35))) (.int 0)
abbrev di:E:=.not abC
abbrev Oz:E:=cmp .lss (.int 10) (fn 1 (pr X0 (.int 35)))
abbrev dk:E:=.not Oz
abbrev adk:E:=cmp .lss (fn 1 (pr X0 (.int 36))) (.int (-1))
abbrev dq:E:=.not adk
abbrev agM:E:=cmp .lss (.int 1) (fn 1 (pr X0 (.int 36)))
abbrev dx:E:=.not agM
abbrev Ug:E:=cmp .lss (fn 1 (pr X0 (.int 37))) (.int 0)
abbrev dA:E:=.not Ug
abbrev abE:E:=cmp .lss (.int 2) (fn 1 (pr X0 (.int 37)))
abbrev dD:E:=.not abE
abbrev OR:E:=cmp .lss (fn 1 (pr X0 (.int 1))) (.int 0)
abbrev dI:E:=.not OR
abbrev Sx:E:=cmp .lss (.int 9999) (fn 1 (pr X0 (.int 1)))
abbrev dP:E:=.not Sx
abbrev aep:E:=cmp .lss (fn 1 (pr X0 (.int 2))) (.int 0)
abbrev dU:E:=.not aep
abbrev WU:E:=cmp .lss (.int 99) (fn 1 (pr X0 (.int 2)))
abbrev OK:E:=cmp .lss (fn 1 (pr X0 (.int 3))) (.int 0)
abbrev eD:E:=.not OK
abbrev YB:E:=cmp .lss (.int 99) (fn 1 (pr X0 (.int 3)))
abbrev Va:E:=cmp .lss (fn 1 (pr X0 (.int 4))) (.int 0)
abbrev eO:E:=.not Va
abbrev ZB:E:=cmp .lss (.int 99) (fn 1 (pr X0 (.int 4)))
abbrev Vl:E:=cmp .lss (fn 1 (pr X0 (.int 5))) (.int 0)
abbrev fq:E:=.not Vl
abbrev aaS:E:=cmp .lss (.int 99) (fn 1 (pr X0 (.int 5)))
abbrev afe:E:=cmp .lss (fn 1 (pr X0 (.int 13))) (.int 0)
abbrev fL:E:=.not afe
abbrev aa2:E:=cmp .lss (.int 7) (fn 1 (pr X0 (.int 13)))
abbrev fU:E:=.not aa2
abbrev abu:E:=cmp .lss (fn 1 (pr X0 (.int 14))) (.int 0)
abbrev gj:E:=.not abu
abbrev QC:E:=cmp .lss (.int 255) (fn 1 (pr X0 (.int 14)))
abbrev Te:E:=cmp .lss (fn 1 (pr X0 (.int 15))) (.int 0)
abbrev gT:E:=.not Te
abbrev acM:E:=cmp .lss (.int 9999) (fn 1 (pr X0 (.int 15)))
abbrev iz:E:=.not acM
abbrev afA:E:=cmp .lss (fn 1 (pr X0 (.int 16))) (.int 0)
abbrev iF:E:=.not afA
abbrev aa3:E:=cmp .lss (.int 99) (fn 1 (pr X0 (.int 16)))
abbrev aeV:E:=cmp .lss (fn 1 (pr X0 (.int 17))) (.int 0)
abbrev jW:E:=.not aeV
abbrev SK:E:=cmp .lss (.int 99) (fn 1 (pr X0 (.int 17)))
abbrev agC:E:=cmp .lss (fn 1 (pr X0 (.int 18))) (.int 0)
abbrev lL:E:=.not agC
abbrev acH:E:=cmp .lss (.int 99) (fn 1 (pr X0 (.int 18)))
abbrev aa5:E:=cmp .lss (fn 1 (pr X0 (.int 19))) (.int 0)
abbrev nW:E:=.not aa5
abbrev S5:E:=cmp .lss (.int 99) (fn 1 (pr X0 (.int 19)))
abbrev Pw:E:=cmp .lss (fn 1 (pr X0 (.int 27))) (.int 0)
abbrev qP:E:=.not Pw
abbrev S6:E:=cmp .lss (.int 7) (fn 1 (pr X0 (.int 27)))
abbrev uo:E:=.not S6
abbrev WO:E:=cmp .lss (fn 1 (pr X0 (.int 28))) (.int 0)
abbrev Af:E:=.not WO
abbrev adJ:E:=cmp .lss (.int 255) (fn 1 (pr X0 (.int 28)))
abbrev JE:E:=.iff (var 3) ua
abbrev yz:E:=cmp .lss (var 1) (.int 0)
abbrev FU:E:=.iff (.not yz) (.not (fn 103 (pr (fn 1 (pr X0 (.int 29))) (pr lG (fn 9 (pr (fn 1 (pr X0 (.int 29))) (.int 5)))))))
abbrev CC:E:=cmp .lss (var 2) (.int 0)
abbrev Md:E:=.iff (.not CC) (.not (fn 103 (pr (fn 1 (pr X0 (.int 30))) (pr Eh (fn 9 (pr (fn 1 (pr X0 (.int 30))) (.int 5)))))))
def aBh:=fb ([X1,X3]) X4<|ax fun F p0 p1=>by
 try simp only[aa,ae]at *
 obtain⟨a1,ea1,qa1⟩:=ab ((1)-(E.I F (fn 1 (pr X0 (.int 34)))))
 omega
def abx:=fb ([X3,X6,X8]) X4<|am fun F p0 p1 p2=>by
 try simp only[aa,ae]at *
 obtain⟨a1,ea1,qa1⟩:=ab ((1)-(E.I F (fn 1 (pr X0 (.int 34)))))
 omega
def arA:=fb ((.not X1)::Rj) X16<|aR fun F p0 p1 p2 p3 p4=>by
 have g0:E.I F (fn 1 (pr X0 (.int 34)))=(1):=by
  try simp only[aa]at *
  omega
 have g1:E.I F _=E.I F (.int 2):=rfl;exact iI 1 2 22 (by decide) (by rfl) g0 g1
def aDD:=fb (X2::GP) X16<|aH fun F p0 p1 p2 p3=>by
 have g0:E.I F (fn 1 (pr X0 (.int 34)))=(1):=by
  try simp only[aa,ae]at *
  obtain⟨a1,ea1,qa1⟩:=ab ((1)-(E.I F (fn 1 (pr X0 (.int 34)))))
  omega
 have g1:E.I F _=E.I F (.int 2):=rfl;exact iI 1 2 22 (by decide) (by rfl) g0 g1
def aHG:=fb (X1::qR) (fn 109 (pr (fn 1 (pr X0 (.int 8))) LL))<|ax fun F p0 p1=>by
 have g0:=by
  try simp only[aa]at *
  omega
 have g1:E.I F _=E.I F (.int 2):=rfl;exact iI 0 2 8 (by decide) (by rfl) g0 g1
def ajv:=fb Rj TO<|aH fun F p0 p1 p2 p3=>by
 have g0:E.I F (fn 7 (pr (.int 1) (fn 1 (pr X0 (.int 34)))))=(1):=by
  try simp only[aa,ae]at *
  obtain⟨a1,ea1,qa1⟩:=ab ((1)-(E.I F (fn 1 (pr X0 (.int 34)))))
  omega
 have g1:E.I F _=E.I F (.int 2):=rfl;exact iI 1 2 22 (by decide) (by rfl) g0 g1
def aIK:=fb (X2::GP) X21<|aH fun F p0 p1 p2 p3=>by
 have g0:E.I F (fn 7 (pr (.int 1) (fn 1 (pr X0 (.int 34)))))=(0):=by
  try simp only[aa,ae]at *
  obtain⟨a1,ea1,qa1⟩:=ab ((1)-(E.I F (fn 1 (pr X0 (.int 34)))))
  omega
 have g1:E.I F _=E.I F (.int 2):=rfl;exact iI 0 2 8 (by decide) (by rfl) g0 g1
def ayn:=fb (X1::qR) TO<|ax fun F p0 p1=>by
 have g0:E.I F (fn 7 (pr (.int 1) (fn 1 (pr X0 (.int 34)))))=(1):=by
  try simp only[aa]at *
  omega
 have g1:E.I F _=E.I F (.int 2):=rfl;exact iI 1 2 22 (by decide) (by rfl) g0 g1
def axr:=fb (X1::X2::qR) X21<|am fun F p0 p1 p2=>by
 have g0:E.I F (fn 7 (pr (.int 1) (fn 1 (pr X0 (.int 34)))))=(0):=by
  try simp only[aa,ae]at *
  obtain⟨a1,ea1,qa1⟩:=ab ((1)-(E.I F (fn 1 (pr X0 (.int 34)))))
  omega
 have g1:E.I F _=E.I F (.int 2):=rfl;exact iI 0 2 8 (by decide) (by rfl) g0 g1
def adn:=fb qR (.not (cmp .lss (.int 30) (fn 0 (fn 1 (pr X0 (.int 31))))))<|aB fun F p0=>by
 have:=aC p0
 try simp only[aa]at *
 omega
def ajD:=fa ((fn 111 (pr X0 (.int 0))))<|fun F=>by
 rfl
def an8:=fa ((fn 113 (pr (fn 10 (.int 0)) (pr X0 (pr (.int 0) (.int 0))))))<|fun F=>by
 grind[asY,aey]
def atv:=fb (vp::VS::X32::X27::Ui) tS<|iu fun F p0 p1 p2 p3 p4 p5 p6 p7 p8 p9 aj=>by
 have:=fun a b c d hm=>@Co F _ (fn 6 (pr dX (.int 1))) _ _ _ p6 a b p7 p8 c d aj hm
 try simp only[aa]at *
 grind
def RB:=fb FH (.not (cmp .lss (.ar .add .i64 dX (.int 1)) (.int 0)))<|am fun F p0 p1 p2=>by
 have:=aC p0
 try simp only[aa,ae]at *
 obtain⟨a3,ea3,qa3⟩:=ab ((E.I F dX)+(1))
 omega
def aus:=fb (vp::(fn 32 (pr zv (pr (fn 1 (pr (fn 1 (pr X0 (.int 31))) dX)) lG)))::Ui) tS<|eB fun F p0 p1 p2 p3 p4 p5 p6 p7 p8=>by
 have:=fun a b c d hm=>@Co F _ (fn 6 (pr dX (.int 1))) _ _ _ p4 a b p5 p6 c d p8 hm
 try simp only[aa]at *
 grind
def UR:=fb qR (.not (cmp .lss (.int 30) (fn 9 (pr (fn 1 (pr X0 (.int 32))) (.int 2)))))<|aB fun F p0=>by
 have:=aC p0
 try simp only[aa]at *
 omega
def Vo:=fb FH (.not (cmp .lss (fn 0 (fn 1 (pr X0 (.int 31)))) (.ar .add .i64 dX (.int 1))))<|am fun F p0 p1 p2=>by
 try simp only[aa,ae]at *
 obtain⟨a3,ea3,qa3⟩:=ab ((E.I F dX)+(1))
 omega
def ayl:=fb ((.not vp)::X9::ZI::X58) CB<|aH fun F p0 p1 p2 p3=>by
 have g0:E.I F (fn 0 (fn 1 (pr X0 (.int 31))))=E.I F dX:=by
  try simp only[aa]at *
  omega
 grind[ajU]
def aup:=fb X67 (fn 111 (pr X0 (.ar .add .i64 dX (.int 1))))<|lf fun F p0 p1 p2 p3 p4 p5 p6 p7 p8 p9 aj ak=>by
 have:=aC p7
 have:=@aM F dX (.int 1)
 have:=fun a b c d hm=>@Co F _ (.ar .add .i64 dX (.int 1)) _ _ _ p6 a b p8 p9 c d ak hm
 try simp only[aa]at *
 grind
def aj8:=fa ((fn 112 (pr X0 (.int 0))))<|fun F=>by
 rfl
def am4:=fb X67 (fn 113 (pr (fn 34 (pr zv (pr (fn 1 (pr (fn 1 (pr X0 (.int 31))) dX)) Eh))) (pr X0 (pr (.ar .add .i64 dX (.int 1)) (.int 0)))))<|lf fun F p0 p1 p2 p3 p4 p5 p6 p7 p8 p9 aj ak=>by
 have:=aC p7
 have:=@aM F dX (.int 1)
 have:=fun a b c d hm=>@Co F _ (.ar .add .i64 dX (.int 1)) _ _ _ p6 a b p8 p9 c d ak hm
 try simp only[aa]at *
 grind
def awS:=fb ((.not vp)::X9::X37::X58) (fn 113 (pr zv (pr X0 (pr (fn 0 (fn 1 (pr X0 (.int 31)))) (.int 0)))))<|aH fun F p0 p1 p2 p3=>by
 have g0:E.I F (fn 0 (fn 1 (pr X0 (.int 31))))=E.I F dX:=by
  try simp only[aa]at *
  omega
 grind[aps]
def Xs:=fb FH (cmp .lss (fn 7 (pr (fn 0 (fn 1 (pr X0 (.int 31)))) (.ar .add .i64 dX (.int 1)))) (fn 7 (pr (fn 0 (fn 1 (pr X0 (.int 31)))) dX)))<|am fun F p0 p1 p2=>by
 have:=aC p0
 try simp only[aa,ae]at *
 obtain⟨a3,ea3,qa3⟩:=ab ((E.I F dX)+(1))
 omega
def aqF:=fb (qN::GF::Rc::X73::DM) tS<|lf fun F p0 p1 p2 p3 p4 p5 p6 p7 p8 p9 aj ak=>by
 have hw:1<=E.I F _->E.I F _<=500->E.I F _=-(E.I F (fn 1 (pr (fn 1 (pr X0 (.int 32))) (fn 6 (pr (fn 8 (pr cg (.int 2))) (.int 0)))))):=vD
 have:=fun a b c d e hm=>@tD F _ (fn 6 (pr cg (.int 1))) _ _ _ (.ar .sub .i64 (.int 0) (fn 1 (pr (fn 1 (pr X0 (.int 32))) (fn 6 (pr (fn 8 (pr cg (.int 2))) (.int 0)))))) ak a b p4 p6 p5 c d p8 hm _ _ rfl rfl e
 try simp only[aa]at *
 grind
def awG:=fb CL (.not (cmp .lss (.ar .add .i64 cg (.int 1)) (.int 0)))<|am fun F p0 p1 p2=>by
 have:=aC p0
 try simp only[aa,ae]at *
 obtain⟨a4,ea4,qa4⟩:=ab ((E.I F cg)+(1))
 omega
def aAx:=fb (qN::GF::Qw::Ze::DM) tS<|lf fun F p0 p1 p2 p3 p4 p5 p6 p7 p8 p9 aj ak=>by
 have hw:1<=E.I F _->E.I F _<=500->E.I F _=-(E.I F (fn 1 (pr (fn 1 (pr X0 (.int 32))) (fn 6 (pr (fn 8 (pr cg (.int 2))) (.int 0)))))):=vD
 have:=fun a b c d e hm=>@tD F _ (fn 6 (pr cg (.int 1))) _ _ _ (.ar .sub .i64 (.int 0) (fn 1 (pr (fn 1 (pr X0 (.int 32))) (fn 6 (pr (fn 8 (pr cg (.int 2))) (.int 0)))))) ak a b p4 p6 p5 c d p8 hm _ _ rfl rfl e
 try simp only[aa]at *
 grind
def aqV:=fb (qN::(fn 32 (pr rz (pr (fn 1 (pr (fn 1 (pr X0 (.int 32))) (fn 6 (pr (fn 8 (pr cg (.int 2))) (.int 1))))) lG)))::(fn 32 (pr rz (pr (.ar .sub .i64 (.int 0) (fn 1 (pr (fn 1 (pr X0 (.int 32))) (fn 6 (pr (fn 8 (pr cg (.int 2))) (.int 0)))))) lG)))::DM) tS<|iu fun F p0 p1 p2 p3 p4 p5 p6 p7 p8 p9 aj=>by
 have hw:1<=E.I F _->E.I F _<=500->E.I F _=-(E.I F (fn 1 (pr (fn 1 (pr X0 (.int 32))) (fn 6 (pr (fn 8 (pr cg (.int 2))) (.int 0)))))):=vD
 have:=fun a b c d e hm=>@tD F _ (fn 6 (pr cg (.int 1))) _ _ _ (.ar .sub .i64 (.int 0) (fn 1 (pr (fn 1 (pr X0 (.int 32))) (fn 6 (pr (fn 8 (pr cg (.int 2))) (.int 0)))))) aj a b p3 p5 p4 c d p7 hm _ _ rfl rfl e
 try simp only[aa]at *
 grind
def axe:=fb (qN::(.not (fn 32 (pr rz (pr (fn 1 (pr (fn 1 (pr X0 (.int 32))) (fn 6 (pr (fn 8 (pr cg (.int 2))) (.int 1))))) lG))))::DM) tS<|iD fun F p0 p1 p2 p3 p4 p5 p6 p7 p8 p9=>by
 have hw:1<=E.I F _->E.I F _<=500->E.I F _=-(E.I F (fn 1 (pr (fn 1 (pr X0 (.int 32))) (fn 6 (pr (fn 8 (pr cg (.int 2))) (.int 0)))))):=vD
 have:=fun a b c d e hm=>@tD F _ (fn 6 (pr cg (.int 1))) _ _ _ (.ar .sub .i64 (.int 0) (fn 1 (pr (fn 1 (pr X0 (.int 32))) (fn 6 (pr (fn 8 (pr cg (.int 2))) (.int 0)))))) p9 a b p2 p4 p3 c d p6 hm _ _ rfl rfl e
 try simp only[aa]at *
 grind
def avw:=fb ([(.not qN),Ot,CB,(.not (cmp .lss (fn 9 (pr (fn 1 (pr X0 (.int 32))) (.int 2))) cg))]) (.iff Eh Na)<|aH fun F p0 p1 p2 p3=>by
 have:=@azM F _ _ p2 p1
 try simp only[aa]at *
 grind
def adq:=fb FH (.not (cmp .lss (fn 7 (pr (fn 0 (fn 1 (pr X0 (.int 31)))) (.ar .add .i64 dX (.int 1)))) (.int 0)))<|am fun F p0 p1 p2=>by
 try simp only[aa,ae]at *
 obtain⟨a3,ea3,qa3⟩:=ab ((E.I F dX)+(1))
 omega
def aHJ:=fb CL (.not (cmp .lss (fn 9 (pr (fn 1 (pr X0 (.int 32))) (.int 2))) (.ar .add .i64 cg (.int 1))))<|am fun F p0 p1 p2=>by
 try simp only[aa,ae]at *
 obtain⟨a4,ea4,qa4⟩:=ab ((E.I F cg)+(1))
 omega
def awq:=fb VO (fn 112 (pr X0 (.ar .add .i64 cg (.int 1))))<|nO fun F p0 p1 p2 p3 p4 p5 p6 p7 p8 p9 aj ak ao aq av az=>by
 have:=aC az
 have:=@aM F cg (.int 1)
 have hw:1<=E.I F _->E.I F _<=500->E.I F _=-(E.I F (fn 1 (pr (fn 1 (pr X0 (.int 32))) (fn 6 (pr (fn 8 (pr cg (.int 2))) (.int 0)))))):=vD
 have:=fun a b c d e hm=>@tD F _ (.ar .add .i64 cg (.int 1)) _ _ _ (.ar .sub .i64 (.int 0) (fn 1 (pr (fn 1 (pr X0 (.int 32))) (fn 6 (pr (fn 8 (pr cg (.int 2))) (.int 0)))))) av a b p7 p9 p8 c d ak hm _ _ rfl rfl e
 try simp only[aa]at *
 grind
def aAh:=fb VO (fn 113 (pr (fn 34 (pr (fn 34 (pr rz (pr (fn 1 (pr (fn 1 (pr X0 (.int 32))) (fn 6 (pr (fn 8 (pr cg (.int 2))) (.int 1))))) lG))) (pr (.ar .sub .i64 (.int 0) (fn 1 (pr (fn 1 (pr X0 (.int 32))) (fn 6 (pr (fn 8 (pr cg (.int 2))) (.int 0)))))) Eh))) (pr X0 (pr (fn 0 (fn 1 (pr X0 (.int 31)))) (.ar .add .i64 cg (.int 1))))))<|nO fun F p0 p1 p2 p3 p4 p5 p6 p7 p8 p9 aj ak ao aq av az=>by
 have:=aC az
 have:=@aM F cg (.int 1)
 have hw:1<=E.I F _->E.I F _<=500->E.I F _=-(E.I F (fn 1 (pr (fn 1 (pr X0 (.int 32))) (fn 6 (pr (fn 8 (pr cg (.int 2))) (.int 0)))))):=vD
 have:=fun a b c d e hm=>@tD F _ (.ar .add .i64 cg (.int 1)) _ _ _ (.ar .sub .i64 (.int 0) (fn 1 (pr (fn 1 (pr X0 (.int 32))) (fn 6 (pr (fn 8 (pr cg (.int 2))) (.int 0)))))) av a b p7 p9 p8 c d ak hm _ _ rfl rfl e
 try simp only[aa]at *
 grind
def aGj:=fb CL (cmp .lss (fn 7 (pr (fn 9 (pr (fn 1 (pr X0 (.int 32))) (.int 2))) (.ar .add .i64 cg (.int 1)))) (fn 7 (pr (fn 9 (pr (fn 1 (pr X0 (.int 32))) (.int 2))) cg)))<|am fun F p0 p1 p2=>by
 have:=aC p0
 try simp only[aa,ae]at *
 obtain⟨a4,ea4,qa4⟩:=ab ((E.I F cg)+(1))
 omega
def aEm:=fb CL (.not (cmp .lss (fn 7 (pr (fn 9 (pr (fn 1 (pr X0 (.int 32))) (.int 2))) (.ar .add .i64 cg (.int 1)))) (.int 0)))<|am fun F p0 p1 p2=>by
 try simp only[aa,ae]at *
 obtain⟨a4,ea4,qa4⟩:=ab ((E.I F cg)+(1))
 omega
def aF:List Fa:=[aBh,abx,arA,aDD,aHG,ajv,aIK,ayn,axr,G77,TZ,adn,ajD,an8,atv,RB,aus,UR,Vo,ayl,aup,aj8,am4,awS,Xs,aqF,awG,aAx,aqV,axe,avw,adq,aHJ,awq,aAh,aGj,aEm]
theorem api:aW Try.prog (bu (amR)):=sc aF (aGK) agT ([]) (by kernel_rfl) (by kernel_rfl)
def Rn:Nl:=nc api agT
def awk:=fb ([X7]) cm<|aB fun F p0=>by
 have:=@cx F X0
 try simp only[aa]at *
 grind
def amE:=fb ([X8,X6,agG]) cm<|am fun F p0 p1 p2=>by
 have:=@cx F X0
 try simp only[aa]at *
 grind
def aoZ:=fb ([X8,X6,cO,cW,abC]) cm<|aR fun F p0 p1 p2 p3 p4=>by
 have:=@cx F X0
 try simp only[aa]at *
 grind
def aIz:=fb ([X8,X6,cO,cW,di,dk,adk]) cm<|de fun F p0 p1 p2 p3 p4 p5 p6=>by
 have:=@cx F X0
 try simp only[aa]at *
 grind
def arb:=fb ([X8,X6,cO,cW,di,dk,dq,dx,Ug]) cm<|eB fun F p0 p1 p2 p3 p4 p5 p6 p7 p8=>by
 have:=@cx F X0
 try simp only[aa]at *
 grind
def anc:=fb ([X9,(cmp .lss (.int 200) (fn 9 (pr (fn 1 (pr X0 (.int 30))) (.int 5))))]) cm<|ax fun F p0 p1=>by
 have:=aC p0
 try simp only[aa]at *
 grind
def aI4:=fb ([X9,X8,X6,cO,cW,di,dk,dq,dx,dA,dD,OR]) cm<|lf fun F p0 p1 p2 p3 p4 p5 p6 p7 p8 p9 aj ak=>by
 have:=@cx F X0
 try simp only[aa]at *
 grind
def aw9:=fb ([X9,X8,X6,cO,cW,di,dk,dq,dx,dA,dD,dI,dP,dU,WU]) cm<|yW fun F p0 p1 p2 p3 p4 p5 p6 p7 p8 p9 aj ak ao aq av=>by
 have:=@cx F X0
 try simp only[aa]at *
 grind
def aEo:=fb ([X9,X8,X6,cO,cW,di,dk,dq,dx,dA,dD,dI,dP,dU,eD,YB]) cm<|nO fun F p0 p1 p2 p3 p4 p5 p6 p7 p8 p9 aj ak ao aq av az=>by
 have:=@cx F X0
 try simp only[aa]at *
 grind
def an7:=fb ([X9,X8,X6,cO,cW,di,dk,dq,dx,dA,dD,dI,dP,dU,eD,eO,ZB]) cm<|ED fun F p0 p1 p2 p3 p4 p5 p6 p7 p8 p9 aj ak ao aq av az aG=>by
 have:=@cx F X0
 try simp only[aa]at *
 grind
def ao7:=fb ([X9,X8,X6,cO,cW,di,dk,dq,dx,dA,dD,dI,dP,dU,eD,eO,fq,aaS]) cm<|yR fun F p0 p1 p2 p3 p4 p5 p6 p7 p8 p9 aj ak ao aq av az aG ap=>by
 have:=@cx F X0
 try simp only[aa]at *
 grind
def aBK:=fb ([X9,X8,X6,cO,cW,di,dk,dq,dx,dA,dD,dI,dP,dU,eD,eO,fq,afe]) cm<|yR fun F p0 p1 p2 p3 p4 p5 p6 p7 p8 p9 aj ak ao aq av az aG ap=>by
 have:=@cx F X0
 try simp only[aa]at *
 grind
def aut:=fb ([X9,X8,X6,cO,cW,di,dk,dq,dx,dA,dD,dI,dP,dU,eD,eO,fq,fL,fU,abu]) cm<|S8 fun F p0 p1 p2 p3 p4 p5 p6 p7 p8 p9 aj ak ao aq av az aG ap au aF=>by
 have:=@cx F X0
 try simp only[aa]at *
 grind
def amP:=fb ([X9,X8,X6,cO,cW,di,dk,dq,dx,dA,dD,dI,dP,dU,eD,eO,fq,fL,fU,gj,QC]) cm<|agP fun F p0 p1 p2 p3 p4 p5 p6 p7 p8 p9 aj ak ao aq av az aG ap au aF aL=>by
 have:=@cx F X0
 try simp only[aa]at *
 grind
def aDs:=fb ([X9,X8,X6,cO,cW,di,dk,dq,dx,dA,dD,dI,dP,dU,eD,eO,fq,fL,fU,gj,Te]) cm<|agP fun F p0 p1 p2 p3 p4 p5 p6 p7 p8 p9 aj ak ao aq av az aG ap au aF aL=>by
 have:=@cx F X0
 try simp only[aa]at *
 grind
def aAo:=fb ([X9,X8,X6,cO,cW,di,dk,dq,dx,dA,dD,dI,dP,dU,eD,eO,fq,fL,fU,gj,gT,iz,iF,aa3]) cm<|Oe fun F p0 p1 p2 p3 p4 p5 p6 p7 p8 p9 aj ak ao aq av az aG ap au aF aL aD aE aO=>by
 have:=@cx F X0
 try simp only[aa]at *
 grind
def aDB:=fb ([X9,X8,X6,cO,cW,di,dk,dq,dx,dA,dD,dI,dP,dU,eD,eO,fq,fL,fU,gj,gT,iz,iF,jW,SK]) cm<|Lz fun F p0 p1 p2 p3 p4 p5 p6 p7 p8 p9 aj ak ao aq av az aG ap au aF aL aD aE aO aQ=>by
 have:=@cx F X0
 try simp only[aa]at *
 grind
def awf:=fb ([X9,X8,X6,cO,cW,di,dk,dq,dx,dA,dD,dI,dP,dU,eD,eO,fq,fL,fU,gj,gT,iz,iF,jW,lL,acH]) cm<|Ev fun F p0 p1 p2 p3 p4 p5 p6 p7 p8 p9 aj ak ao aq av az aG ap au aF aL aD aE aO aQ aV=>by
 have:=@cx F X0
 try simp only[aa]at *
 grind
def ayk:=fb ([X9,X8,X6,cO,cW,di,dk,dq,dx,dA,dD,dI,dP,dU,eD,eO,fq,fL,fU,gj,gT,iz,iF,jW,lL,nW,S5]) cm<|vC fun F p0 p1 p2 p3 p4 p5 p6 p7 p8 p9 aj ak ao aq av az aG ap au aF aL aD aE aO aQ aV bb=>by
 have:=@cx F X0
 try simp only[aa]at *
 grind
def aqe:=fb ([X9,X8,X6,cO,cW,di,dk,dq,dx,dA,dD,dI,dP,dU,eD,eO,fq,fL,fU,gj,gT,iz,iF,jW,lL,nW,Pw]) cm<|vC fun F p0 p1 p2 p3 p4 p5 p6 p7 p8 p9 aj ak ao aq av az aG ap au aF aL aD aE aO aQ aV bb=>by
 have:=@cx F X0
 try simp only[aa]at *
 grind
def ang:=fb ([X9,X8,X6,cO,cW,di,dk,dq,dx,dA,dD,dI,dP,dU,eD,eO,fq,fL,fU,gj,gT,iz,iF,jW,lL,nW,qP,uo,WO]) cm<|MO fun F p0 p1 p2 p3 p4 p5 p6 p7 p8 p9 aj ak ao aq av az aG ap au aF aL aD aE aO aQ aV bb bp bD=>by
 have:=@cx F X0
 try simp only[aa]at *
 grind
def amU:=fb ([X9,X8,X6,cO,cW,di,dk,dq,dx,dA,dD,dI,dP,dU,eD,eO,fq,fL,fU,gj,gT,iz,iF,jW,lL,nW,qP,uo,Af,adJ]) cm<|aDS fun F p0 p1 p2 p3 p4 p5 p6 p7 p8 p9 aj ak ao aq av az aG ap au aF aL aD aE aO aQ aV bb bp bD bL=>by
 have:=@cx F X0
 try simp only[aa]at *
 grind
def apb:=fb ([JE,(var 3)]) ua<|ax fun F p0 p1=>by
 simp_all
def ahz:=fb ([X9,X8,X6,cO,cW,di,dk,dq,dx,dA,dD,dI,dP,dU,eD,eO,fq,fL,fU,gj,gT,iz,iF,jW,lL,nW,qP,uo,Af,FU,yz,Md,CC,JE,(.not (var 3))]) cm<|aB3 fun F p0 p1 p2 p3 p4 p5 p6 p7 p8 p9 aj ak ao aq av az aG ap au aF aL aD aE aO aQ aV bb bp bD bL bO ce df eJ fC=>by
 have:=@cx F X0
 simp_all
def aG3:=fb ([X9,X8,X6,cO,cW,di,dk,dq,dx,dA,dD,dI,dP,dU,eD,eO,fq,fL,fU,gj,gT,iz,iF,jW,lL,nW,qP,uo,Af,FU,yz,Md,(.not CC)]) cm<|qt fun F p0 p1 p2 p3 p4 p5 p6 p7 p8 p9 aj ak ao aq av az aG ap au aF aL aD aE aO aQ aV bb bp bD bL bO ce df=>by
 have:=@cx F X0
 simp_all
def aGi:=fb ([X9,X8,X6,cO,cW,di,dk,dq,dx,dA,dD,dI,dP,dU,eD,eO,fq,fL,fU,gj,gT,iz,iF,jW,lL,nW,qP,uo,Af,FU,(.not yz)]) cm<|yK fun F p0 p1 p2 p3 p4 p5 p6 p7 p8 p9 aj ak ao aq av az aG ap au aF aL aD aE aO aQ aV bb bp bD bL bO=>by
 have:=@cx F X0
 simp_all
def axz:=fb ([X9,X8,X6,cO,cW,di,dk,dq,dx,dA,dD,dI,dP,dU,eD,eO,fq,fL,fU,gj,gT,iz,iF,jW,lL,nW,qP,S6]) cm<|zq fun F p0 p1 p2 p3 p4 p5 p6 p7 p8 p9 aj ak ao aq av az aG ap au aF aL aD aE aO aQ aV bb bp=>by
 have:=@cx F X0
 try simp only[aa]at *
 grind
def aBV:=fb ([X9,X8,X6,cO,cW,di,dk,dq,dx,dA,dD,dI,dP,dU,eD,eO,fq,fL,fU,gj,gT,iz,iF,jW,lL,aa5]) cm<|Ev fun F p0 p1 p2 p3 p4 p5 p6 p7 p8 p9 aj ak ao aq av az aG ap au aF aL aD aE aO aQ aV=>by
 have:=@cx F X0
 try simp only[aa]at *
 grind
def azL:=fb ([X9,X8,X6,cO,cW,di,dk,dq,dx,dA,dD,dI,dP,dU,eD,eO,fq,fL,fU,gj,gT,iz,iF,jW,agC]) cm<|Lz fun F p0 p1 p2 p3 p4 p5 p6 p7 p8 p9 aj ak ao aq av az aG ap au aF aL aD aE aO aQ=>by
 have:=@cx F X0
 try simp only[aa]at *
 grind
def anV:=fb ([X9,X8,X6,cO,cW,di,dk,dq,dx,dA,dD,dI,dP,dU,eD,eO,fq,fL,fU,gj,gT,iz,iF,aeV]) cm<|Oe fun F p0 p1 p2 p3 p4 p5 p6 p7 p8 p9 aj ak ao aq av az aG ap au aF aL aD aE aO=>by
 have:=@cx F X0
 try simp only[aa]at *
 grind
def azk:=fb ([X9,X8,X6,cO,cW,di,dk,dq,dx,dA,dD,dI,dP,dU,eD,eO,fq,fL,fU,gj,gT,iz,afA]) cm<|aFy fun F p0 p1 p2 p3 p4 p5 p6 p7 p8 p9 aj ak ao aq av az aG ap au aF aL aD aE=>by
 have:=@cx F X0
 try simp only[aa]at *
 grind
def am7:=fb ([X9,X8,X6,cO,cW,di,dk,dq,dx,dA,dD,dI,dP,dU,eD,eO,fq,fL,fU,gj,gT,iz,iF,jW,lL,nW,qP,uo,Af,FU,yz,Md,CC,JE,(var 3),(.iff (var 4) Na),(.not WU),(.not YB),(.not ZB),(.not aaS),(.not QC),(.not aa3),(.not SK),(.not acH),(.not S5),(.not adJ)]) (.iff (var 4) (fn 115 X0))<|aIG fun F p0 p1 p2 p3 p4 p5 p6 p7 p8 p9 aj ak ao aq av az aG ap au aF aL aD aE aO aQ aV bb bp bD bL bO ce df eJ fC gp iK lH qS sn rg rG qH sH o7 C2=>by
 have:=aC p0
 have:=@cx F X0
 try simp only[aa]at *
 grind
def aiC:=fb ([X9,X8,X6,cO,cW,di,dk,dq,dx,dA,dD,dI,dP,dU,eD,eO,fq,fL,fU,gj,gT,acM]) cm<|aAH fun F p0 p1 p2 p3 p4 p5 p6 p7 p8 p9 aj ak ao aq av az aG ap au aF aL aD=>by
 have:=@cx F X0
 try simp only[aa]at *
 grind
def aoy:=fb ([X9,X8,X6,cO,cW,di,dk,dq,dx,dA,dD,dI,dP,dU,eD,eO,fq,fL,aa2]) cm<|Ee fun F p0 p1 p2 p3 p4 p5 p6 p7 p8 p9 aj ak ao aq av az aG ap au=>by
 have:=@cx F X0
 try simp only[aa]at *
 grind
def aET:=fb ([X9,X8,X6,cO,cW,di,dk,dq,dx,dA,dD,dI,dP,dU,eD,eO,Vl]) cm<|ED fun F p0 p1 p2 p3 p4 p5 p6 p7 p8 p9 aj ak ao aq av az aG=>by
 have:=@cx F X0
 try simp only[aa]at *
 grind
def anL:=fb ([X9,X8,X6,cO,cW,di,dk,dq,dx,dA,dD,dI,dP,dU,eD,Va]) cm<|nO fun F p0 p1 p2 p3 p4 p5 p6 p7 p8 p9 aj ak ao aq av az=>by
 have:=@cx F X0
 try simp only[aa]at *
 grind
def akb:=fb ([X9,X8,X6,cO,cW,di,dk,dq,dx,dA,dD,dI,dP,dU,OK]) cm<|yW fun F p0 p1 p2 p3 p4 p5 p6 p7 p8 p9 aj ak ao aq av=>by
 have:=@cx F X0
 try simp only[aa]at *
 grind
def ats:=fb ([X9,X8,X6,cO,cW,di,dk,dq,dx,dA,dD,dI,dP,aep]) cm<|rX fun F p0 p1 p2 p3 p4 p5 p6 p7 p8 p9 aj ak ao aq=>by
 have:=@cx F X0
 try simp only[aa]at *
 grind
def alz:=fb ([X9,X8,X6,cO,cW,di,dk,dq,dx,dA,dD,dI,Sx]) cm<|iN fun F p0 p1 p2 p3 p4 p5 p6 p7 p8 p9 aj ak ao=>by
 have:=@cx F X0
 try simp only[aa]at *
 grind
def aCb:=fb ([X9,(cmp .lss (.int 200) (fn 9 (pr (fn 1 (pr X0 (.int 29))) (.int 5))))]) cm<|ax fun F p0 p1=>by
 have:=aC p0
 try simp only[aa]at *
 grind
def aoY:=fb ([X9,(cmp .lss (.int 500) (fn 9 (pr (fn 1 (pr X0 (.int 0))) (.int 12))))]) cm<|ax fun F p0 p1=>by
 have:=aC p0
 try simp only[aa]at *
 grind
def aA8:=fb ([X8,X6,cO,cW,di,dk,dq,dx,dA,abE]) cm<|iD fun F p0 p1 p2 p3 p4 p5 p6 p7 p8 p9=>by
 have:=@cx F X0
 try simp only[aa]at *
 grind
def aiw:=fb ([X8,X6,cO,cW,di,dk,dq,agM]) cm<|dw fun F p0 p1 p2 p3 p4 p5 p6 p7=>by
 have:=@cx F X0
 try simp only[aa]at *
 grind
def at2:=fb ([X8,X6,cO,cW,di,Oz]) cm<|cr fun F p0 p1 p2 p3 p4 p5=>by
 have:=@cx F X0
 try simp only[aa]at *
 grind
def ahJ:=fb ([X8,X6,cO,abP]) cm<|aH fun F p0 p1 p2 p3=>by
 have:=@cx F X0
 try simp only[aa]at *
 grind
def ayB:=fb ([X8,X5]) cm<|ax fun F p0 p1=>by
 have:=@cx F X0
 try simp only[aa]at *
 grind
def aL:List Fa:=[awk,amE,aoZ,aIz,arb,anc,aI4,aw9,aEo,an7,ao7,aBK,aut,amP,aDs,aAo,aDB,awf,ayk,aqe,ang,amU,apb,ahz,aG3,aGi,axz,aBV,azL,anV,azk,am7,aiC,aoy,aET,anL,akb,ats,alz,aCb,aoY,aA8,aiw,at2,ahJ,ayB]
theorem ane:aW Try.prog (bu (spV)):=sc aL ([]) Rn ([]) (by kernel_rfl) (by kernel_rfl)
def afV:Nl:=nc ane Rn
end
end Go.Proofs.Ytnnbmcfabojjjaa.payHolds
