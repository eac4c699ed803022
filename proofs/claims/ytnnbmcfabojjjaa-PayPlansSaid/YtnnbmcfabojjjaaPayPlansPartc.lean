/-
  PayPlans: contracts of functions, part 3.
-/
import Derived.Test.YtnnbmcfabojjjaaRows
import Derived.Test.YtnnbmcfabojjjaaNat
import Derived.WalkKit
import Derived.ProofKit
import Derived.OpenShut
import Derived.ChangeOld
import Derived.Below
import Derived.KernelRfl
import Derived.Lib.SmallJoins
import Derived.Laws.IdiomArrays
import Derived.Test.YtnnbmcfabojjjaaPayPlansPartb
namespace Go.Proofs.Ytnnbmcfabojjjaa.payPlans
open Go.ChangeShapes Go.WideShapes Go.ChangeAt Go.RowKit
open Go.SX
open Go.SX.E (fn pr cmp var)
set_option linter.unusedVariables false
set_option linter.unusedSimpArgs false
set_option maxRecDepth 100000
noncomputable section
abbrev X0:E:=var 0
abbrev X1:E:=cmp .eql (fn 1 (pr X0 (.int 34))) (.int 0)
abbrev X2:E:=.ar .sub .i64 (.int 1) (fn 1 (pr X0 (.int 34)))
abbrev X3:E:=cmp .eql X2 (.int 0)
abbrev X4:E:=.not X3
abbrev X5:E:=cmp .eql X2 (.int 1)
abbrev X6:E:=cmp .lss (.int 1) (fn 1 (pr X0 (.int 34)))
abbrev X7:E:=.not X6
abbrev X8:E:=cmp .lss (fn 1 (pr X0 (.int 34))) (.int 0)
abbrev X9:E:=.not X8
abbrev cr:E:=fn 117 X0
abbrev ur:=[cr]
abbrev X12:=X9::ur
abbrev RJ:=X7::X12
abbrev X14:=X4::RJ
abbrev S5:E:=pr X0 (pr (fn 1 (pr X0 (.int 34))) (.int 2))
abbrev X16:E:=pr (fn 1 (pr X0 (.int 22))) S5
abbrev Vm:E:=fn 109 X16
abbrev On:E:=pr X0 (pr (fn 7 (pr (.int 1) (fn 1 (pr X0 (.int 34))))) (.int 2))
abbrev X19:E:=pr (fn 1 (pr X0 (.int 22))) On
abbrev X20:E:=fn 109 X19
abbrev X21:E:=pr (fn 1 (pr X0 (.int 8))) On
abbrev YN:E:=fn 109 X21
abbrev fg:E:=var 8
abbrev xi:E:=cmp .lss fg (fn 0 (fn 1 (pr X0 (.int 31))))
abbrev Ch:E:=var 9
abbrev lT:E:=.bool false
abbrev X27:E:=.not (fn 32 (pr Ch (pr (fn 1 (pr (fn 1 (pr X0 (.int 31))) fg)) lT)))
abbrev X28:E:=cmp .lss (var 12) (.int 0)
abbrev UV:E:=.not X28
abbrev X30:E:=var 10
abbrev X31:E:=pr X30 (fn 1 (pr (fn 1 (pr X0 (.int 31))) fg))
abbrev X32:E:=fn 114 X31
abbrev X33:E:=.iff UV X32
abbrev v8:E:=fn 108 X0
abbrev X35:E:=pr fg (.int 0)
abbrev X36:E:=pr X0 X35
abbrev X37:E:=pr Ch X36
abbrev ZO:E:=fn 113 X37
abbrev X39:E:=pr X0 fg
abbrev VA:E:=fn 111 X39
abbrev X41:E:=cmp .lss fg (.int 0)
abbrev X42:E:=.not X41
abbrev X43:E:=pr X30 S5
abbrev X44:E:=fn 109 X43
abbrev X45:=[X44]
abbrev X46:=X42::X45
abbrev X47:=VA::X46
abbrev X48:=ZO::X47
abbrev X49:=v8::X48
abbrev X50:=X9::X49
abbrev X51:=X7::X50
abbrev OG:E:=fn 110 X0
abbrev xT:E:=.iff lT OG
abbrev X54:=[X42]
abbrev X55:=xi::X54
abbrev DT:=cr::X55
abbrev sm:E:=.ar .add .i64 fg (.int 1)
abbrev X58:E:=cmp .lss (fn 0 (fn 1 (pr X0 (.int 31)))) fg
abbrev X59:E:=.not X58
abbrev X60:=[X59]
abbrev Jv:E:=fn 111 (pr X0 (fn 0 (fn 1 (pr X0 (.int 31)))))
abbrev X62:=cr::X48
abbrev X63:=v8::X62
abbrev X64:=X9::X63
abbrev X65:=X7::X64
abbrev X66:=UV::X65
abbrev X67:=X33::X66
abbrev X68:=X27::X67
abbrev X69:=xi::X68
abbrev Kf:E:=.bool true
abbrev du:E:=var 16
abbrev um:E:=cmp .lss du (fn 9 (pr (fn 1 (pr X0 (.int 32))) (.int 2)))
abbrev vo:E:=var 17
abbrev pI:E:=.ar .sub .i64 (.int 0) (fn 1 (pr (fn 1 (pr X0 (.int 32))) (fn 6 (pr (fn 8 (pr du (.int 2))) (.int 0)))))
abbrev Rc:E:=.not (fn 32 (pr vo (pr pI lT)))
abbrev X76:E:=cmp .lss (var 21) (.int 0)
abbrev VE:E:=.not X76
abbrev ZG:E:=var 19
abbrev X79:E:=pr ZG (fn 1 (pr (fn 1 (pr X0 (.int 32))) (fn 6 (pr (fn 8 (pr du (.int 2))) (.int 0)))))
abbrev X80:E:=fn 114 X79
abbrev X81:E:=.iff VE X80
abbrev X82:E:=pr (fn 0 (fn 1 (pr X0 (.int 31)))) du
abbrev X83:E:=pr X0 X82
abbrev X84:E:=pr vo X83
abbrev X85:E:=fn 113 X84
abbrev PL:E:=fn 112 (pr X0 du)
abbrev X87:E:=cmp .lss du (.int 0)
abbrev Pp:E:=.not X87
abbrev X89:E:=pr ZG On
abbrev X90:E:=fn 109 X89
abbrev X91:=[X9,v8]
abbrev X92:=X7::X91
abbrev X93:=X90::X92
abbrev X94:=Pp::X93
abbrev X95:=Jv::X94
abbrev X96:=PL::X95
abbrev FP:=X85::X96
abbrev X98:=[Pp]
abbrev X99:=um::X98
abbrev Hq:=cr::X99
abbrev re:E:=.ar .add .i64 du (.int 1)
abbrev akZ:E:=cmp .lss (var 20) (.int 0)
abbrev Yl:E:=.not akZ
abbrev aRf:E:=pr (fn 1 (pr X0 (.int 31))) (fn 1 (pr (fn 1 (pr X0 (.int 32))) (fn 6 (pr (fn 8 (pr du (.int 2))) (.int 1)))))
abbrev aC8:E:=fn 114 aRf
abbrev akE:E:=.iff Yl aC8
abbrev aD9:=X90::X7::X9::v8::ur
abbrev ax9:=Pp::aD9
abbrev aud:=Jv::ax9
abbrev aE8:=PL::aud
abbrev aAE:=X85::aE8
abbrev apf:=VE::aAE
abbrev aT7:=X81::apf
abbrev arl:=Yl::aT7
abbrev aQ6:=akE::arl
abbrev aAW:=Rc::aQ6
abbrev aLM:List E:=(fn 32 (pr vo (pr (fn 1 (pr (fn 1 (pr X0 (.int 32))) (fn 6 (pr (fn 8 (pr du (.int 2))) (.int 1))))) lT)))::aAW
abbrev aaa:=um::aLM
abbrev cg:E:=.iff lT (fn 115 X0)
abbrev aa7:E:=cmp .lss (fn 1 (pr X0 (.int 33))) (.int 0)
abbrev cz:E:=.not aa7
abbrev alD:E:=cmp .lss (.int 1000) (fn 1 (pr X0 (.int 33)))
abbrev cG:E:=.not alD
abbrev alw:E:=cmp .lss (fn 1 (pr X0 (.int 35))) (.int 0)
abbrev cK:E:=.not alw
abbrev aay:E:=cmp .lss (.int 10) (fn 1 (pr X0 (.int 35)))
abbrev cQ:E:=.not aay
abbrev acM:E:=cmp .lss (fn 1 (pr X0 (.int 36))) (.int (-1))
abbrev cT:E:=.not acM
abbrev anM:E:=cmp .lss (.int 1) (fn 1 (pr X0 (.int 36)))
abbrev cW:E:=.not anM
abbrev amI:E:=cmp .lss (fn 1 (pr X0 (.int 37))) (.int 0)
abbrev dd:E:=.not amI
abbrev aiu:E:=cmp .lss (.int 2) (fn 1 (pr X0 (.int 37)))
abbrev dk:E:=.not aiu
abbrev akQ:E:=cmp .lss (fn 1 (pr X0 (.int 1))) (.int 0)
abbrev dm:E:=.not akQ
abbrev alM:E:=cmp .lss (.int 9999) (fn 1 (pr X0 (.int 1)))
abbrev dy:E:=.not alM
abbrev aje:E:=cmp .lss (fn 1 (pr X0 (.int 2))) (.int 0)
abbrev dz:E:=.not aje
abbrev ai4:E:=cmp .lss (.int 99) (fn 1 (pr X0 (.int 2)))
abbrev VQ:E:=cmp .lss (fn 1 (pr X0 (.int 3))) (.int 0)
abbrev dQ:E:=.not VQ
abbrev agK:E:=cmp .lss (.int 99) (fn 1 (pr X0 (.int 3)))
abbrev amK:E:=cmp .lss (fn 1 (pr X0 (.int 4))) (.int 0)
abbrev d6:E:=.not amK
abbrev am2:E:=cmp .lss (.int 99) (fn 1 (pr X0 (.int 4)))
abbrev XE:E:=cmp .lss (fn 1 (pr X0 (.int 5))) (.int 0)
abbrev eF:E:=.not XE
abbrev Zd:E:=cmp .lss (.int 99) (fn 1 (pr X0 (.int 5)))
abbrev WQ:E:=cmp .lss (fn 1 (pr X0 (.int 13))) (.int 0)
abbrev fe:E:=.not WQ
abbrev aog:E:=cmp .lss (.int 7) (fn 1 (pr X0 (.int 13)))
abbrev fC:E:=.not aog
abbrev agX:E:=cmp .lss (fn 1 (pr X0 (.int 14))) (.int 0)
abbrev fZ:E:=.not agX
abbrev VI:E:=cmp .lss (.int 255) (fn 1 (pr X0 (.int 14)))
abbrev Va:E:=cmp .lss (fn 1 (pr X0 (.int 15))) (.int 0)
abbrev gM:E:=.not Va
abbrev aeW:E:=cmp .lss (.int 9999) (fn 1 (pr X0 (.int 15)))
abbrev iC:E:=.not aeW
abbrev aaK:E:=cmp .lss (fn 1 (pr X0 (.int 16))) (.int 0)
abbrev iF:E:=.not aaK
abbrev aat:E:=cmp .lss (.int 99) (fn 1 (pr X0 (.int 16)))
abbrev afb:E:=cmp .lss (fn 1 (pr X0 (.int 17))) (.int 0)
abbrev ky:E:=.not afb
abbrev aaI:E:=cmp .lss (.int 99) (fn 1 (pr X0 (.int 17)))
abbrev aji:E:=cmp .lss (fn 1 (pr X0 (.int 18))) (.int 0)
abbrev lR:E:=.not aji
abbrev am9:E:=cmp .lss (.int 99) (fn 1 (pr X0 (.int 18)))
abbrev ana:E:=cmp .lss (fn 1 (pr X0 (.int 19))) (.int 0)
abbrev pv:E:=.not ana
abbrev Vc:E:=cmp .lss (.int 99) (fn 1 (pr X0 (.int 19)))
abbrev ahD:E:=cmp .lss (fn 1 (pr X0 (.int 27))) (.int 0)
abbrev uZ:E:=.not ahD
abbrev aeA:E:=cmp .lss (.int 7) (fn 1 (pr X0 (.int 27)))
abbrev yR:E:=.not aeA
abbrev amn:E:=cmp .lss (fn 1 (pr X0 (.int 28))) (.int 0)
abbrev zR:E:=.not amn
abbrev anP:E:=cmp .lss (.int 255) (fn 1 (pr X0 (.int 28)))
abbrev Tb:E:=.iff (var 3) v8
abbrev BR:E:=cmp .lss (var 1) (.int 0)
abbrev KR:E:=.iff (.not BR) (.not (fn 103 (pr (fn 1 (pr X0 (.int 29))) (pr lT (fn 9 (pr (fn 1 (pr X0 (.int 29))) (.int 5)))))))
abbrev DJ:E:=cmp .lss (var 2) (.int 0)
abbrev MQ:E:=.iff (.not DJ) (.not (fn 103 (pr (fn 1 (pr X0 (.int 30))) (pr Kf (fn 9 (pr (fn 1 (pr X0 (.int 30))) (.int 5)))))))
def aqn:=fb ([X1,X4]) X5<|ak fun F p0 p1=>by
 try simp only[aa,ab]at *
 obtain⟨a1,ea1,qa1⟩:=ae ((1)-(E.I F (fn 1 (pr X0 (.int 34)))))
 omega
def XJ:=fb ([X4,X7,X9]) X5<|af fun F p0 p1 p2=>by
 try simp only[aa,ab]at *
 obtain⟨a1,ea1,qa1⟩:=ae ((1)-(E.I F (fn 1 (pr X0 (.int 34)))))
 omega
def aMY:=fb ((.not X1)::X14) Vm<|aB fun F p0 p1 p2 p3 p4=>by
 have g0:E.I F (fn 1 (pr X0 (.int 34)))=(1):=by
  try simp only[aa]at *
  omega
 have g1:E.I F _=E.I F (.int 2):=rfl;exact gI 1 2 22 (by decide) (by rfl) g0 g1
def aTs:=fb (X3::RJ) Vm<|aj fun F p0 p1 p2 p3=>by
 have g0:E.I F (fn 1 (pr X0 (.int 34)))=(1):=by
  try simp only[aa,ab]at *
  obtain⟨a1,ea1,qa1⟩:=ae ((1)-(E.I F (fn 1 (pr X0 (.int 34)))))
  omega
 have g1:E.I F _=E.I F (.int 2):=rfl;exact gI 1 2 22 (by decide) (by rfl) g0 g1
def aA2:=fb (X1::ur) (fn 109 (pr (fn 1 (pr X0 (.int 8))) S5))<|ak fun F p0 p1=>by
 have g0:=by
  try simp only[aa]at *
  omega
 have g1:E.I F _=E.I F (.int 2):=rfl;exact gI 0 2 8 (by decide) (by rfl) g0 g1
def az1:=fb X14 X20<|aj fun F p0 p1 p2 p3=>by
 have g0:E.I F (fn 7 (pr (.int 1) (fn 1 (pr X0 (.int 34)))))=(1):=by
  try simp only[aa,ab]at *
  obtain⟨a1,ea1,qa1⟩:=ae ((1)-(E.I F (fn 1 (pr X0 (.int 34)))))
  omega
 have g1:E.I F _=E.I F (.int 2):=rfl;exact gI 1 2 22 (by decide) (by rfl) g0 g1
def ao2:=fb (X3::RJ) YN<|aj fun F p0 p1 p2 p3=>by
 have g0:E.I F (fn 7 (pr (.int 1) (fn 1 (pr X0 (.int 34)))))=(0):=by
  try simp only[aa,ab]at *
  obtain⟨a1,ea1,qa1⟩:=ae ((1)-(E.I F (fn 1 (pr X0 (.int 34)))))
  omega
 have g1:E.I F _=E.I F (.int 2):=rfl;exact gI 0 2 8 (by decide) (by rfl) g0 g1
def aOr:=fb (X1::ur) X20<|ak fun F p0 p1=>by
 have g0:E.I F (fn 7 (pr (.int 1) (fn 1 (pr X0 (.int 34)))))=(1):=by
  try simp only[aa]at *
  omega
 have g1:E.I F _=E.I F (.int 2):=rfl;exact gI 1 2 22 (by decide) (by rfl) g0 g1
def aVg:=fb (X1::X3::ur) YN<|af fun F p0 p1 p2=>by
 have g0:E.I F (fn 7 (pr (.int 1) (fn 1 (pr X0 (.int 34)))))=(0):=by
  try simp only[aa,ab]at *
  obtain⟨a1,ea1,qa1⟩:=ae ((1)-(E.I F (fn 1 (pr X0 (.int 34)))))
  omega
 have g1:E.I F _=E.I F (.int 2):=rfl;exact gI 0 2 8 (by decide) (by rfl) g0 g1
def abo:=fb ur (.not (cmp .lss (.int 30) (fn 0 (fn 1 (pr X0 (.int 31))))))<|aq fun F p0=>by
 have:=ap p0
 try simp only[aa]at *
 omega
def avu:=fa ((fn 111 (pr X0 (.int 0))))<|fun F=>by
 rfl
def aMF:=fa ((fn 113 (pr (fn 10 (.int 0)) (pr X0 (pr (.int 0) (.int 0))))))<|fun F=>by
 grind[aSH,ZC]
def au8:=fb (xi::X27::X33::X28::X51) xT<|dH fun F p0 p1 p2 p3 p4 p5 p6 p7 p8 p9 ai=>by
 have:=fun a b c d hm=>@Hd F _ (fn 6 (pr fg (.int 1))) _ _ _ p6 a b p7 p8 c d ai hm
 try simp only[aa]at *
 grind
def anC:=fb DT (.not (cmp .lss sm (.int 0)))<|af fun F p0 p1 p2=>by
 have:=ap p0
 try simp only[aa,ab]at *
 obtain⟨a3,ea3,qa3⟩:=ae ((E.I F fg)+(1))
 omega
def aRn:=fb (xi::(fn 32 (pr Ch (pr (fn 1 (pr (fn 1 (pr X0 (.int 31))) fg)) lT)))::X51) xT<|bh fun F p0 p1 p2 p3 p4 p5 p6 p7 p8=>by
 have:=fun a b c d hm=>@Hd F _ (fn 6 (pr fg (.int 1))) _ _ _ p4 a b p5 p6 c d p8 hm
 try simp only[aa]at *
 grind
def anB:=fb ur (.not (cmp .lss (.int 30) (fn 9 (pr (fn 1 (pr X0 (.int 32))) (.int 2)))))<|aq fun F p0=>by
 have:=ap p0
 try simp only[aa]at *
 omega
def WV:=fb DT (.not (cmp .lss (fn 0 (fn 1 (pr X0 (.int 31)))) sm))<|af fun F p0 p1 p2=>by
 try simp only[aa,ab]at *
 obtain⟨a3,ea3,qa3⟩:=ae ((E.I F fg)+(1))
 omega
def av0:=fb ((.not xi)::cr::VA::X60) Jv<|aj fun F p0 p1 p2 p3=>by
 have g0:E.I F (fn 0 (fn 1 (pr X0 (.int 31))))=E.I F fg:=by
  try simp only[aa]at *
  omega
 grind[asR]
def aK2:=fb X69 (fn 111 (pr X0 sm))<|fu fun F p0 p1 p2 p3 p4 p5 p6 p7 p8 p9 ai ao=>by
 have:=ap p7
 have:=@am F fg (.int 1)
 have:=fun a b c d hm=>@Hd F _ sm _ _ _ p6 a b p8 p9 c d ao hm
 try simp only[aa]at *
 grind
def aWX:=fa ((fn 112 (pr X0 (.int 0))))<|fun F=>by
 rfl
def aPK:=fb X69 (fn 113 (pr (fn 34 (pr Ch (pr (fn 1 (pr (fn 1 (pr X0 (.int 31))) fg)) Kf))) (pr X0 (pr sm (.int 0)))))<|fu fun F p0 p1 p2 p3 p4 p5 p6 p7 p8 p9 ai ao=>by
 have:=ap p7
 have:=@am F fg (.int 1)
 have:=fun a b c d hm=>@Hd F _ sm _ _ _ p6 a b p8 p9 c d ao hm
 try simp only[aa]at *
 grind
def aWI:=fb ((.not xi)::cr::ZO::X60) (fn 113 (pr Ch (pr X0 (pr (fn 0 (fn 1 (pr X0 (.int 31)))) (.int 0)))))<|aj fun F p0 p1 p2 p3=>by
 have g0:E.I F (fn 0 (fn 1 (pr X0 (.int 31))))=E.I F fg:=by
  try simp only[aa]at *
  omega
 grind[aFD]
def aii:=fb DT (cmp .lss (fn 7 (pr (fn 0 (fn 1 (pr X0 (.int 31)))) sm)) (fn 7 (pr (fn 0 (fn 1 (pr X0 (.int 31)))) fg)))<|af fun F p0 p1 p2=>by
 have:=ap p0
 try simp only[aa,ab]at *
 obtain⟨a3,ea3,qa3⟩:=ae ((E.I F fg)+(1))
 omega
def aHw:=fb (um::Rc::X81::X76::FP) xT<|fu fun F p0 p1 p2 p3 p4 p5 p6 p7 p8 p9 ai ao=>by
 have hw:1<=E.I F _->E.I F _<=500->E.I F _=-(E.I F (fn 1 (pr (fn 1 (pr X0 (.int 32))) (fn 6 (pr (fn 8 (pr du (.int 2))) (.int 0)))))):=wA
 have:=fun a b c d e hm=>@xE F _ (fn 6 (pr du (.int 1))) _ _ _ pI ao a b p4 p6 p5 c d p8 hm _ _ rfl rfl e
 try simp only[aa]at *
 grind
def aAh:=fb Hq (.not (cmp .lss re (.int 0)))<|af fun F p0 p1 p2=>by
 have:=ap p0
 try simp only[aa,ab]at *
 obtain⟨a4,ea4,qa4⟩:=ae ((E.I F du)+(1))
 omega
def aEi:=fb (um::Rc::akE::akZ::FP) xT<|fu fun F p0 p1 p2 p3 p4 p5 p6 p7 p8 p9 ai ao=>by
 have hw:1<=E.I F _->E.I F _<=500->E.I F _=-(E.I F (fn 1 (pr (fn 1 (pr X0 (.int 32))) (fn 6 (pr (fn 8 (pr du (.int 2))) (.int 0)))))):=wA
 have:=fun a b c d e hm=>@xE F _ (fn 6 (pr du (.int 1))) _ _ _ pI ao a b p4 p6 p5 c d p8 hm _ _ rfl rfl e
 try simp only[aa]at *
 grind
def aDK:=fb (um::(fn 32 (pr vo (pr (fn 1 (pr (fn 1 (pr X0 (.int 32))) (fn 6 (pr (fn 8 (pr du (.int 2))) (.int 1))))) lT)))::(fn 32 (pr vo (pr pI lT)))::FP) xT<|dH fun F p0 p1 p2 p3 p4 p5 p6 p7 p8 p9 ai=>by
 have hw:1<=E.I F _->E.I F _<=500->E.I F _=-(E.I F (fn 1 (pr (fn 1 (pr X0 (.int 32))) (fn 6 (pr (fn 8 (pr du (.int 2))) (.int 0)))))):=wA
 have:=fun a b c d e hm=>@xE F _ (fn 6 (pr du (.int 1))) _ _ _ pI ai a b p3 p5 p4 c d p7 hm _ _ rfl rfl e
 try simp only[aa]at *
 grind
def ao1:=fb (um::(.not (fn 32 (pr vo (pr (fn 1 (pr (fn 1 (pr X0 (.int 32))) (fn 6 (pr (fn 8 (pr du (.int 2))) (.int 1))))) lT))))::FP) xT<|bE fun F p0 p1 p2 p3 p4 p5 p6 p7 p8 p9=>by
 have hw:1<=E.I F _->E.I F _<=500->E.I F _=-(E.I F (fn 1 (pr (fn 1 (pr X0 (.int 32))) (fn 6 (pr (fn 8 (pr du (.int 2))) (.int 0)))))):=wA
 have:=fun a b c d e hm=>@xE F _ (fn 6 (pr du (.int 1))) _ _ _ pI p9 a b p2 p4 p3 c d p6 hm _ _ rfl rfl e
 try simp only[aa]at *
 grind
def aSp:=fb ([(.not um),PL,Jv,(.not (cmp .lss (fn 9 (pr (fn 1 (pr X0 (.int 32))) (.int 2))) du))]) (.iff Kf OG)<|aj fun F p0 p1 p2 p3=>by
 have:=@aSg F _ _ p2 p1
 try simp only[aa]at *
 grind
def ak6:=fb DT (.not (cmp .lss (fn 7 (pr (fn 0 (fn 1 (pr X0 (.int 31)))) sm)) (.int 0)))<|af fun F p0 p1 p2=>by
 try simp only[aa,ab]at *
 obtain⟨a3,ea3,qa3⟩:=ae ((E.I F fg)+(1))
 omega
def aF4:=fb Hq (.not (cmp .lss (fn 9 (pr (fn 1 (pr X0 (.int 32))) (.int 2))) re))<|af fun F p0 p1 p2=>by
 try simp only[aa,ab]at *
 obtain⟨a4,ea4,qa4⟩:=ae ((E.I F du)+(1))
 omega
def awT:=fb aaa (fn 112 (pr X0 re))<|pQ fun F p0 p1 p2 p3 p4 p5 p6 p7 p8 p9 ai ao aw aD aG aH=>by
 have:=ap aH
 have:=@am F du (.int 1)
 have hw:1<=E.I F _->E.I F _<=500->E.I F _=-(E.I F (fn 1 (pr (fn 1 (pr X0 (.int 32))) (fn 6 (pr (fn 8 (pr du (.int 2))) (.int 0)))))):=wA
 have:=fun a b c d e hm=>@xE F _ re _ _ _ pI aG a b p7 p9 p8 c d ao hm _ _ rfl rfl e
 try simp only[aa]at *
 grind
def aSi:=fb aaa (fn 113 (pr (fn 34 (pr (fn 34 (pr vo (pr (fn 1 (pr (fn 1 (pr X0 (.int 32))) (fn 6 (pr (fn 8 (pr du (.int 2))) (.int 1))))) lT))) (pr pI Kf))) (pr X0 (pr (fn 0 (fn 1 (pr X0 (.int 31)))) re))))<|pQ fun F p0 p1 p2 p3 p4 p5 p6 p7 p8 p9 ai ao aw aD aG aH=>by
 have:=ap aH
 have:=@am F du (.int 1)
 have hw:1<=E.I F _->E.I F _<=500->E.I F _=-(E.I F (fn 1 (pr (fn 1 (pr X0 (.int 32))) (fn 6 (pr (fn 8 (pr du (.int 2))) (.int 0)))))):=wA
 have:=fun a b c d e hm=>@xE F _ re _ _ _ pI aG a b p7 p9 p8 c d ao hm _ _ rfl rfl e
 try simp only[aa]at *
 grind
def aQt:=fb Hq (cmp .lss (fn 7 (pr (fn 9 (pr (fn 1 (pr X0 (.int 32))) (.int 2))) re)) (fn 7 (pr (fn 9 (pr (fn 1 (pr X0 (.int 32))) (.int 2))) du)))<|af fun F p0 p1 p2=>by
 have:=ap p0
 try simp only[aa,ab]at *
 obtain⟨a4,ea4,qa4⟩:=ae ((E.I F du)+(1))
 omega
def azo:=fb Hq (.not (cmp .lss (fn 7 (pr (fn 9 (pr (fn 1 (pr X0 (.int 32))) (.int 2))) re)) (.int 0)))<|af fun F p0 p1 p2=>by
 try simp only[aa,ab]at *
 obtain⟨a4,ea4,qa4⟩:=ae ((E.I F du)+(1))
 omega
def bw:List Fa:=[aqn,XJ,aMY,aTs,aA2,az1,ao2,aOr,aVg,G77,G72,abo,avu,aMF,au8,anC,aRn,anB,WV,av0,aK2,aWX,aPK,aWI,aii,aHw,aAh,aEi,aDK,ao1,aSp,ak6,aF4,awT,aSi,aQt,azo]
theorem axv:aN Try.prog (aZ (auJ)):=sc bw (aHu) UZ ([]) (by kernel_rfl) (by kernel_rfl)
def aho:Nl:=nc axv UZ
def aBb:=fb ([X8]) cg<|aq fun F p0=>by
 have:=@cp F X0
 try simp only[aa]at *
 grind
def az4:=fb ([X9,X7,aa7]) cg<|af fun F p0 p1 p2=>by
 have:=@cp F X0
 try simp only[aa]at *
 grind
def aMx:=fb ([X9,X7,cz,cG,alw]) cg<|aB fun F p0 p1 p2 p3 p4=>by
 have:=@cp F X0
 try simp only[aa]at *
 grind
def asf:=fb ([X9,X7,cz,cG,cK,cQ,acM]) cg<|bb fun F p0 p1 p2 p3 p4 p5 p6=>by
 have:=@cp F X0
 try simp only[aa]at *
 grind
def arU:=fb ([X9,X7,cz,cG,cK,cQ,cT,cW,amI]) cg<|bh fun F p0 p1 p2 p3 p4 p5 p6 p7 p8=>by
 have:=@cp F X0
 try simp only[aa]at *
 grind
def aAd:=fb ([cr,(cmp .lss (.int 200) (fn 9 (pr (fn 1 (pr X0 (.int 30))) (.int 5))))]) cg<|ak fun F p0 p1=>by
 have:=ap p0
 try simp only[aa]at *
 grind
def aF0:=fb ([cr,X9,X7,cz,cG,cK,cQ,cT,cW,dd,dk,akQ]) cg<|fu fun F p0 p1 p2 p3 p4 p5 p6 p7 p8 p9 ai ao=>by
 have:=@cp F X0
 try simp only[aa]at *
 grind
def aPe:=fb ([cr,X9,X7,cz,cG,cK,cQ,cT,cW,dd,dk,dm,dy,dz,ai4]) cg<|Cw fun F p0 p1 p2 p3 p4 p5 p6 p7 p8 p9 ai ao aw aD aG=>by
 have:=@cp F X0
 try simp only[aa]at *
 grind
def aWu:=fb ([cr,X9,X7,cz,cG,cK,cQ,cT,cW,dd,dk,dm,dy,dz,dQ,agK]) cg<|pQ fun F p0 p1 p2 p3 p4 p5 p6 p7 p8 p9 ai ao aw aD aG aH=>by
 have:=@cp F X0
 try simp only[aa]at *
 grind
def aYc:=fb ([cr,X9,X7,cz,cG,cK,cQ,cT,cW,dd,dk,dm,dy,dz,dQ,d6,am2]) cg<|EY fun F p0 p1 p2 p3 p4 p5 p6 p7 p8 p9 ai ao aw aD aG aH aT=>by
 have:=@cp F X0
 try simp only[aa]at *
 grind
def aXw:=fb ([cr,X9,X7,cz,cG,cK,cQ,cT,cW,dd,dk,dm,dy,dz,dQ,d6,eF,Zd]) cg<|AN fun F p0 p1 p2 p3 p4 p5 p6 p7 p8 p9 ai ao aw aD aG aH aT aY=>by
 have:=@cp F X0
 try simp only[aa]at *
 grind
def aFZ:=fb ([cr,X9,X7,cz,cG,cK,cQ,cT,cW,dd,dk,dm,dy,dz,dQ,d6,eF,WQ]) cg<|AN fun F p0 p1 p2 p3 p4 p5 p6 p7 p8 p9 ai ao aw aD aG aH aT aY=>by
 have:=@cp F X0
 try simp only[aa]at *
 grind
def aF2:=fb ([cr,X9,X7,cz,cG,cK,cQ,cT,cW,dd,dk,dm,dy,dz,dQ,d6,eF,fe,fC,agX]) cg<|aft fun F p0 p1 p2 p3 p4 p5 p6 p7 p8 p9 ai ao aw aD aG aH aT aY bk bw=>by
 have:=@cp F X0
 try simp only[aa]at *
 grind
def aRq:=fb ([cr,X9,X7,cz,cG,cK,cQ,cT,cW,dd,dk,dm,dy,dz,dQ,d6,eF,fe,fC,fZ,VI]) cg<|aet fun F p0 p1 p2 p3 p4 p5 p6 p7 p8 p9 ai ao aw aD aG aH aT aY bk bw bF=>by
 have:=@cp F X0
 try simp only[aa]at *
 grind
def aLe:=fb ([cr,X9,X7,cz,cG,cK,cQ,cT,cW,dd,dk,dm,dy,dz,dQ,d6,eF,fe,fC,fZ,Va]) cg<|aet fun F p0 p1 p2 p3 p4 p5 p6 p7 p8 p9 ai ao aw aD aG aH aT aY bk bw bF=>by
 have:=@cp F X0
 try simp only[aa]at *
 grind
def aCr:=fb ([cr,X9,X7,cz,cG,cK,cQ,cT,cW,dd,dk,dm,dy,dz,dQ,d6,eF,fe,fC,fZ,gM,iC,iF,aat]) cg<|O1 fun F p0 p1 p2 p3 p4 p5 p6 p7 p8 p9 ai ao aw aD aG aH aT aY bk bw bF bP bZ ck=>by
 have:=@cp F X0
 try simp only[aa]at *
 grind
def atO:=fb ([cr,X9,X7,cz,cG,cK,cQ,cT,cW,dd,dk,dm,dy,dz,dQ,d6,eF,fe,fC,fZ,gM,iC,iF,ky,aaI]) cg<|Yz fun F p0 p1 p2 p3 p4 p5 p6 p7 p8 p9 ai ao aw aD aG aH aT aY bk bw bF bP bZ ck cO=>by
 have:=@cp F X0
 try simp only[aa]at *
 grind
def aAV:=fb ([cr,X9,X7,cz,cG,cK,cQ,cT,cW,dd,dk,dm,dy,dz,dQ,d6,eF,fe,fC,fZ,gM,iC,iF,ky,lR,am9]) cg<|adX fun F p0 p1 p2 p3 p4 p5 p6 p7 p8 p9 ai ao aw aD aG aH aT aY bk bw bF bP bZ ck cO df=>by
 have:=@cp F X0
 try simp only[aa]at *
 grind
def aUW:=fb ([cr,X9,X7,cz,cG,cK,cQ,cT,cW,dd,dk,dm,dy,dz,dQ,d6,eF,fe,fC,fZ,gM,iC,iF,ky,lR,pv,Vc]) cg<|akr fun F p0 p1 p2 p3 p4 p5 p6 p7 p8 p9 ai ao aw aD aG aH aT aY bk bw bF bP bZ ck cO df dC=>by
 have:=@cp F X0
 try simp only[aa]at *
 grind
def azU:=fb ([cr,X9,X7,cz,cG,cK,cQ,cT,cW,dd,dk,dm,dy,dz,dQ,d6,eF,fe,fC,fZ,gM,iC,iF,ky,lR,pv,ahD]) cg<|akr fun F p0 p1 p2 p3 p4 p5 p6 p7 p8 p9 ai ao aw aD aG aH aT aY bk bw bF bP bZ ck cO df dC=>by
 have:=@cp F X0
 try simp only[aa]at *
 grind
def aHZ:=fb ([cr,X9,X7,cz,cG,cK,cQ,cT,cW,dd,dk,dm,dy,dz,dQ,d6,eF,fe,fC,fZ,gM,iC,iF,ky,lR,pv,uZ,yR,amn]) cg<|aJ1 fun F p0 p1 p2 p3 p4 p5 p6 p7 p8 p9 ai ao aw aD aG aH aT aY bk bw bF bP bZ ck cO df dC dY eS=>by
 have:=@cp F X0
 try simp only[aa]at *
 grind
def aOd:=fb ([cr,X9,X7,cz,cG,cK,cQ,cT,cW,dd,dk,dm,dy,dz,dQ,d6,eF,fe,fC,fZ,gM,iC,iF,ky,lR,pv,uZ,yR,zR,anP]) cg<|aRk fun F p0 p1 p2 p3 p4 p5 p6 p7 p8 p9 ai ao aw aD aG aH aT aY bk bw bF bP bZ ck cO df dC dY eS fS=>by
 have:=@cp F X0
 try simp only[aa]at *
 grind
def aTh:=fb ([Tb,(var 3)]) v8<|ak fun F p0 p1=>by
 simp_all
def aNB:=fb ([cr,X9,X7,cz,cG,cK,cQ,cT,cW,dd,dk,dm,dy,dz,dQ,d6,eF,fe,fC,fZ,gM,iC,iF,ky,lR,pv,uZ,yR,zR,KR,BR,MQ,DJ,Tb,(.not (var 3))]) cg<|aTM fun F p0 p1 p2 p3 p4 p5 p6 p7 p8 p9 ai ao aw aD aG aH aT aY bk bw bF bP bZ ck cO df dC dY eS fS h9 jQ jM nO nZ=>by
 have:=@cp F X0
 simp_all
def aIy:=fb ([cr,X9,X7,cz,cG,cK,cQ,cT,cW,dd,dk,dm,dy,dz,dQ,d6,eF,fe,fC,fZ,gM,iC,iF,ky,lR,pv,uZ,yR,zR,KR,BR,MQ,(.not DJ)]) cg<|aNF fun F p0 p1 p2 p3 p4 p5 p6 p7 p8 p9 ai ao aw aD aG aH aT aY bk bw bF bP bZ ck cO df dC dY eS fS h9 jQ jM=>by
 have:=@cp F X0
 simp_all
def aIr:=fb ([cr,X9,X7,cz,cG,cK,cQ,cT,cW,dd,dk,dm,dy,dz,dQ,d6,eF,fe,fC,fZ,gM,iC,iF,ky,lR,pv,uZ,yR,zR,KR,(.not BR)]) cg<|aPU fun F p0 p1 p2 p3 p4 p5 p6 p7 p8 p9 ai ao aw aD aG aH aT aY bk bw bF bP bZ ck cO df dC dY eS fS h9=>by
 have:=@cp F X0
 simp_all
def aEO:=fb ([cr,X9,X7,cz,cG,cK,cQ,cT,cW,dd,dk,dm,dy,dz,dQ,d6,eF,fe,fC,fZ,gM,iC,iF,ky,lR,pv,uZ,aeA]) cg<|axD fun F p0 p1 p2 p3 p4 p5 p6 p7 p8 p9 ai ao aw aD aG aH aT aY bk bw bF bP bZ ck cO df dC dY=>by
 have:=@cp F X0
 try simp only[aa]at *
 grind
def ayy:=fb ([cr,X9,X7,cz,cG,cK,cQ,cT,cW,dd,dk,dm,dy,dz,dQ,d6,eF,fe,fC,fZ,gM,iC,iF,ky,lR,ana]) cg<|adX fun F p0 p1 p2 p3 p4 p5 p6 p7 p8 p9 ai ao aw aD aG aH aT aY bk bw bF bP bZ ck cO df=>by
 have:=@cp F X0
 try simp only[aa]at *
 grind
def atp:=fb ([cr,X9,X7,cz,cG,cK,cQ,cT,cW,dd,dk,dm,dy,dz,dQ,d6,eF,fe,fC,fZ,gM,iC,iF,ky,aji]) cg<|Yz fun F p0 p1 p2 p3 p4 p5 p6 p7 p8 p9 ai ao aw aD aG aH aT aY bk bw bF bP bZ ck cO=>by
 have:=@cp F X0
 try simp only[aa]at *
 grind
def asF:=fb ([cr,X9,X7,cz,cG,cK,cQ,cT,cW,dd,dk,dm,dy,dz,dQ,d6,eF,fe,fC,fZ,gM,iC,iF,afb]) cg<|O1 fun F p0 p1 p2 p3 p4 p5 p6 p7 p8 p9 ai ao aw aD aG aH aT aY bk bw bF bP bZ ck=>by
 have:=@cp F X0
 try simp only[aa]at *
 grind
def aXJ:=fb ([cr,X9,X7,cz,cG,cK,cQ,cT,cW,dd,dk,dm,dy,dz,dQ,d6,eF,fe,fC,fZ,gM,iC,aaK]) cg<|aQA fun F p0 p1 p2 p3 p4 p5 p6 p7 p8 p9 ai ao aw aD aG aH aT aY bk bw bF bP bZ=>by
 have:=@cp F X0
 try simp only[aa]at *
 grind
def ayi:=fb ([cr,X9,X7,cz,cG,cK,cQ,cT,cW,dd,dk,dm,dy,dz,dQ,d6,eF,fe,fC,fZ,gM,iC,iF,ky,lR,pv,uZ,yR,zR,KR,BR,MQ,DJ,Tb,(var 3),(.iff (var 4) OG),(.not ai4),(.not agK),(.not am2),(.not Zd),(.not VI),(.not aat),(.not aaI),(.not am9),(.not Vc),(.not anP)]) (.iff (var 4) (fn 115 X0))<|aMZ fun F p0 p1 p2 p3 p4 p5 p6 p7 p8 p9 ai ao aw aD aG aH aT aY bk bw bF bP bZ ck cO df dC dY eS fS h9 jQ jM nO nZ vH uF vU uy vC tM vJ vD tA rH IY=>by
 have:=ap p0
 have:=@cp F X0
 try simp only[aa]at *
 grind
def apg:=fb ([cr,X9,X7,cz,cG,cK,cQ,cT,cW,dd,dk,dm,dy,dz,dQ,d6,eF,fe,fC,fZ,gM,aeW]) cg<|aoQ fun F p0 p1 p2 p3 p4 p5 p6 p7 p8 p9 ai ao aw aD aG aH aT aY bk bw bF bP=>by
 have:=@cp F X0
 try simp only[aa]at *
 grind
def aWy:=fb ([cr,X9,X7,cz,cG,cK,cQ,cT,cW,dd,dk,dm,dy,dz,dQ,d6,eF,fe,aog]) cg<|GL fun F p0 p1 p2 p3 p4 p5 p6 p7 p8 p9 ai ao aw aD aG aH aT aY bk=>by
 have:=@cp F X0
 try simp only[aa]at *
 grind
def az9:=fb ([cr,X9,X7,cz,cG,cK,cQ,cT,cW,dd,dk,dm,dy,dz,dQ,d6,XE]) cg<|EY fun F p0 p1 p2 p3 p4 p5 p6 p7 p8 p9 ai ao aw aD aG aH aT=>by
 have:=@cp F X0
 try simp only[aa]at *
 grind
def aNu:=fb ([cr,X9,X7,cz,cG,cK,cQ,cT,cW,dd,dk,dm,dy,dz,dQ,amK]) cg<|pQ fun F p0 p1 p2 p3 p4 p5 p6 p7 p8 p9 ai ao aw aD aG aH=>by
 have:=@cp F X0
 try simp only[aa]at *
 grind
def aR0:=fb ([cr,X9,X7,cz,cG,cK,cQ,cT,cW,dd,dk,dm,dy,dz,VQ]) cg<|Cw fun F p0 p1 p2 p3 p4 p5 p6 p7 p8 p9 ai ao aw aD aG=>by
 have:=@cp F X0
 try simp only[aa]at *
 grind
def aKV:=fb ([cr,X9,X7,cz,cG,cK,cQ,cT,cW,dd,dk,dm,dy,aje]) cg<|ub fun F p0 p1 p2 p3 p4 p5 p6 p7 p8 p9 ai ao aw aD=>by
 have:=@cp F X0
 try simp only[aa]at *
 grind
def aNi:=fb ([cr,X9,X7,cz,cG,cK,cQ,cT,cW,dd,dk,dm,alM]) cg<|fV fun F p0 p1 p2 p3 p4 p5 p6 p7 p8 p9 ai ao aw=>by
 have:=@cp F X0
 try simp only[aa]at *
 grind
def aMn:=fb ([cr,(cmp .lss (.int 200) (fn 9 (pr (fn 1 (pr X0 (.int 29))) (.int 5))))]) cg<|ak fun F p0 p1=>by
 have:=ap p0
 try simp only[aa]at *
 grind
def arO:=fb ([cr,(cmp .lss (.int 500) (fn 9 (pr (fn 1 (pr X0 (.int 0))) (.int 12))))]) cg<|ak fun F p0 p1=>by
 have:=ap p0
 try simp only[aa]at *
 grind
def at9:=fb ([X9,X7,cz,cG,cK,cQ,cT,cW,dd,aiu]) cg<|bE fun F p0 p1 p2 p3 p4 p5 p6 p7 p8 p9=>by
 have:=@cp F X0
 try simp only[aa]at *
 grind
def aWq:=fb ([X9,X7,cz,cG,cK,cQ,cT,anM]) cg<|ba fun F p0 p1 p2 p3 p4 p5 p6 p7=>by
 have:=@cp F X0
 try simp only[aa]at *
 grind
def aKW:=fb ([X9,X7,cz,cG,cK,aay]) cg<|be fun F p0 p1 p2 p3 p4 p5=>by
 have:=@cp F X0
 try simp only[aa]at *
 grind
def arL:=fb ([X9,X7,cz,alD]) cg<|aj fun F p0 p1 p2 p3=>by
 have:=@cp F X0
 try simp only[aa]at *
 grind
def as5:=fb ([X9,X6]) cg<|ak fun F p0 p1=>by
 have:=@cp F X0
 try simp only[aa]at *
 grind
def bF:List Fa:=[aBb,az4,aMx,asf,arU,aAd,aF0,aPe,aWu,aYc,aXw,aFZ,aF2,aRq,aLe,aCr,atO,aAV,aUW,azU,aHZ,aOd,aTh,aNB,aIy,aIr,aEO,ayy,atp,asF,aXJ,ayi,apg,aWy,az9,aNu,aR0,aKV,aNi,aMn,arO,at9,aWq,aKW,arL,as5]
theorem aDm:aN Try.prog (aZ (spV)):=sc bF ([]) aho ([]) (by kernel_rfl) (by kernel_rfl)
def ahi:Nl:=nc aDm aho
end
end Go.Proofs.Ytnnbmcfabojjjaa.payPlans
