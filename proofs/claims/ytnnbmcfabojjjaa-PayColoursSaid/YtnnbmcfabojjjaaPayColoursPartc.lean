/-
  PayColours: contracts of functions, part 3.
-/
import Derived.Test.YtnnbmcfabojjjaaRows
import Derived.Test.YtnnbmcfabojjjaaNat
import Derived.WalkKit
import Derived.ProofKit
import Derived.OpenShut
import Derived.ChangeOld
import Derived.Below
import Derived.KernelRfl
import Derived.Lib.SmallJoins
import Derived.Laws.IdiomArrays
import Derived.Test.YtnnbmcfabojjjaaPayColoursPartb
namespace Go.Proofs.Ytnnbmcfabojjjaa.payColours
open Go.ChangeShapes Go.WideShapes Go.ChangeAt Go.RowKit
open Go.SX
open Go.SX.E (fn pr cmp var)
set_option linter.unusedVariables false
set_option linter.unusedSimpArgs false
set_option maxRecDepth 100000
noncomputable section
abbrev X0:E:=var 0
abbrev X1:E:=cmp .eql (fn 1 (pr X0 (.int 34))) (.int 0)
abbrev X2:E:=cmp .eql (.ar .sub .i64 (.int 1) (fn 1 (pr X0 (.int 34)))) (.int 0)
abbrev X3:E:=.not X2
abbrev X4:E:=cmp .eql (.ar .sub .i64 (.int 1) (fn 1 (pr X0 (.int 34)))) (.int 1)
abbrev X5:E:=cmp .lss (.int 1) (fn 1 (pr X0 (.int 34)))
abbrev X6:E:=.not X5
abbrev X7:E:=cmp .lss (fn 1 (pr X0 (.int 34))) (.int 0)
abbrev X8:E:=.not X7
abbrev X9:E:=fn 117 X0
abbrev rA:=[X9]
abbrev X11:=X8::rA
abbrev Km:=X6::X11
abbrev ZQ:=X3::Km
abbrev LB:E:=pr X0 (pr (fn 1 (pr X0 (.int 34))) (.int 2))
abbrev X15:E:=pr (fn 1 (pr X0 (.int 22))) LB
abbrev XG:E:=fn 109 X15
abbrev KS:E:=pr X0 (pr (fn 7 (pr (.int 1) (fn 1 (pr X0 (.int 34))))) (.int 2))
abbrev X18:E:=pr (fn 1 (pr X0 (.int 22))) KS
abbrev Wn:E:=fn 109 X18
abbrev X20:E:=pr (fn 1 (pr X0 (.int 8))) KS
abbrev X21:E:=fn 109 X20
abbrev dC:E:=var 8
abbrev tX:E:=cmp .lss dC (fn 0 (fn 1 (pr X0 (.int 31))))
abbrev zo:E:=var 9
abbrev kK:E:=.bool false
abbrev X26:E:=.not (fn 32 (pr zo (pr (fn 1 (pr (fn 1 (pr X0 (.int 31))) dC)) kK)))
abbrev X27:E:=cmp .lss (var 12) (.int 0)
abbrev X28:E:=.not X27
abbrev X29:E:=var 10
abbrev X30:E:=pr X29 (fn 1 (pr (fn 1 (pr X0 (.int 31))) dC))
abbrev X31:E:=fn 114 X30
abbrev Nq:E:=.iff X28 X31
abbrev sA:E:=fn 108 X0
abbrev X34:E:=pr dC (.int 0)
abbrev X35:E:=pr X0 X34
abbrev X36:E:=pr zo X35
abbrev U9:E:=fn 113 X36
abbrev X38:E:=pr X0 dC
abbrev X39:E:=fn 111 X38
abbrev X40:E:=cmp .lss dC (.int 0)
abbrev X41:E:=.not X40
abbrev X42:E:=pr X29 LB
abbrev X43:E:=fn 109 X42
abbrev X44:=[X43]
abbrev X45:=X41::X44
abbrev X46:=X39::X45
abbrev Qw:=U9::X46
abbrev X48:=sA::Qw
abbrev X49:=X8::X48
abbrev RZ:=X6::X49
abbrev IN:E:=fn 110 X0
abbrev uE:E:=.iff kK IN
abbrev X53:=[X41]
abbrev X54:=tX::X53
abbrev B5:=X9::X54
abbrev X56:E:=cmp .lss (fn 0 (fn 1 (pr X0 (.int 31)))) dC
abbrev X57:E:=.not X56
abbrev R5:=[X57]
abbrev z8:E:=fn 111 (pr X0 (fn 0 (fn 1 (pr X0 (.int 31)))))
abbrev X60:=X9::Qw
abbrev X61:=sA::X60
abbrev X62:=X8::X61
abbrev X63:=X6::X62
abbrev X64:=X28::X63
abbrev X65:=Nq::X64
abbrev X66:=X26::X65
abbrev ZU:=tX::X66
abbrev Ds:E:=.bool true
abbrev bO:E:=var 16
abbrev pW:E:=cmp .lss bO (fn 9 (pr (fn 1 (pr X0 (.int 32))) (.int 2)))
abbrev qy:E:=var 17
abbrev Js:E:=.not (fn 32 (pr qy (pr (.ar .sub .i64 (.int 0) (fn 1 (pr (fn 1 (pr X0 (.int 32))) (fn 6 (pr (fn 8 (pr bO (.int 2))) (.int 0)))))) kK)))
abbrev X73:E:=cmp .lss (var 21) (.int 0)
abbrev ZF:E:=.not X73
abbrev Xt:E:=var 19
abbrev X76:E:=pr Xt (fn 1 (pr (fn 1 (pr X0 (.int 32))) (fn 6 (pr (fn 8 (pr bO (.int 2))) (.int 0)))))
abbrev X77:E:=fn 114 X76
abbrev SY:E:=.iff ZF X77
abbrev X79:E:=pr (fn 0 (fn 1 (pr X0 (.int 31)))) bO
abbrev X80:E:=pr X0 X79
abbrev X81:E:=pr qy X80
abbrev X82:E:=fn 113 X81
abbrev Ms:E:=fn 112 (pr X0 bO)
abbrev X84:E:=cmp .lss bO (.int 0)
abbrev GH:E:=.not X84
abbrev X86:E:=pr Xt KS
abbrev WB:E:=fn 109 X86
abbrev X88:=[X8,sA]
abbrev X89:=X6::X88
abbrev X90:=WB::X89
abbrev X91:=GH::X90
abbrev X92:=z8::X91
abbrev X93:=Ms::X92
abbrev FF:=X82::X93
abbrev X95:=[GH]
abbrev X96:=pW::X95
abbrev Fy:=X9::X96
abbrev Ph:E:=cmp .lss (var 20) (.int 0)
abbrev XK:E:=.not Ph
abbrev agS:E:=pr (fn 1 (pr X0 (.int 31))) (fn 1 (pr (fn 1 (pr X0 (.int 32))) (fn 6 (pr (fn 8 (pr bO (.int 2))) (.int 1)))))
abbrev aoc:E:=fn 114 agS
abbrev acj:E:=.iff XK aoc
abbrev ayP:=WB::X6::X8::sA::rA
abbrev aoq:=GH::ayP
abbrev akc:=z8::aoq
abbrev ae8:=Ms::akc
abbrev awU:=X82::ae8
abbrev alX:=ZF::awU
abbrev anN:=SY::alX
abbrev aFp:=XK::anN
abbrev aoA:=acj::aFp
abbrev asd:=Js::aoA
abbrev afK:List E:=(fn 32 (pr qy (pr (fn 1 (pr (fn 1 (pr X0 (.int 32))) (fn 6 (pr (fn 8 (pr bO (.int 2))) (.int 1))))) kK)))::asd
abbrev SR:=pW::afK
abbrev bY:E:=.iff kK (fn 115 X0)
abbrev abx:E:=cmp .lss (fn 1 (pr X0 (.int 33))) (.int 0)
abbrev cq:E:=.not abx
abbrev Rt:E:=cmp .lss (.int 1000) (fn 1 (pr X0 (.int 33)))
abbrev cx:E:=.not Rt
abbrev Pi:E:=cmp .lss (fn 1 (pr X0 (.int 35))) (.int 0)
abbrev cA:E:=.not Pi
abbrev Ox:E:=cmp .lss (.int 10) (fn 1 (pr X0 (.int 35)))
abbrev cH:E:=.not Ox
abbrev S0:E:=cmp .lss (fn 1 (pr X0 (.int 36))) (.int (-1))
abbrev cO:E:=.not S0
abbrev Qt:E:=cmp .lss (.int 1) (fn 1 (pr X0 (.int 36)))
abbrev cS:E:=.not Qt
abbrev SI:E:=cmp .lss (fn 1 (pr X0 (.int 37))) (.int 0)
abbrev cV:E:=.not SI
abbrev aez:E:=cmp .lss (.int 2) (fn 1 (pr X0 (.int 37)))
abbrev da:E:=.not aez
abbrev XA:E:=cmp .lss (fn 1 (pr X0 (.int 1))) (.int 0)
abbrev dd:E:=.not XA
abbrev aa0:E:=cmp .lss (.int 9999) (fn 1 (pr X0 (.int 1)))
abbrev de:E:=.not aa0
abbrev Zx:E:=cmp .lss (fn 1 (pr X0 (.int 2))) (.int 0)
abbrev dl:E:=.not Zx
abbrev acf:E:=cmp .lss (.int 99) (fn 1 (pr X0 (.int 2)))
abbrev aaa:E:=cmp .lss (fn 1 (pr X0 (.int 3))) (.int 0)
abbrev dH:E:=.not aaa
abbrev aeg:E:=cmp .lss (.int 99) (fn 1 (pr X0 (.int 3)))
abbrev PS:E:=cmp .lss (fn 1 (pr X0 (.int 4))) (.int 0)
abbrev d5:E:=.not PS
abbrev abL:E:=cmp .lss (.int 99) (fn 1 (pr X0 (.int 4)))
abbrev abv:E:=cmp .lss (fn 1 (pr X0 (.int 5))) (.int 0)
abbrev eA:E:=.not abv
abbrev abO:E:=cmp .lss (.int 99) (fn 1 (pr X0 (.int 5)))
abbrev Oh:E:=cmp .lss (fn 1 (pr X0 (.int 13))) (.int 0)
abbrev eO:E:=.not Oh
abbrev Rv:E:=cmp .lss (.int 7) (fn 1 (pr X0 (.int 13)))
abbrev fk:E:=.not Rv
abbrev UN:E:=cmp .lss (fn 1 (pr X0 (.int 14))) (.int 0)
abbrev fv:E:=.not UN
abbrev aaY:E:=cmp .lss (.int 255) (fn 1 (pr X0 (.int 14)))
abbrev OO:E:=cmp .lss (fn 1 (pr X0 (.int 15))) (.int 0)
abbrev f9:E:=.not OO
abbrev ZS:E:=cmp .lss (.int 9999) (fn 1 (pr X0 (.int 15)))
abbrev gq:E:=.not ZS
abbrev QZ:E:=cmp .lss (fn 1 (pr X0 (.int 16))) (.int 0)
abbrev gI:E:=.not QZ
abbrev S4:E:=cmp .lss (.int 99) (fn 1 (pr X0 (.int 16)))
abbrev QX:E:=cmp .lss (fn 1 (pr X0 (.int 17))) (.int 0)
abbrev iQ:E:=.not QX
abbrev Ty:E:=cmp .lss (.int 99) (fn 1 (pr X0 (.int 17)))
abbrev PG:E:=cmp .lss (fn 1 (pr X0 (.int 18))) (.int 0)
abbrev kr:E:=.not PG
abbrev NU:E:=cmp .lss (.int 99) (fn 1 (pr X0 (.int 18)))
abbrev Wd:E:=cmp .lss (fn 1 (pr X0 (.int 19))) (.int 0)
abbrev nK:E:=.not Wd
abbrev PA:E:=cmp .lss (.int 99) (fn 1 (pr X0 (.int 19)))
abbrev aav:E:=cmp .lss (fn 1 (pr X0 (.int 27))) (.int 0)
abbrev ra:E:=.not aav
abbrev Se:E:=cmp .lss (.int 7) (fn 1 (pr X0 (.int 27)))
abbrev uv:E:=.not Se
abbrev aen:E:=cmp .lss (fn 1 (pr X0 (.int 28))) (.int 0)
abbrev xK:E:=.not aen
abbrev aae:E:=cmp .lss (.int 255) (fn 1 (pr X0 (.int 28)))
abbrev GN:E:=.iff (var 3) sA
abbrev yR:E:=cmp .lss (var 1) (.int 0)
abbrev Cr:E:=.iff (.not yR) (.not (fn 103 (pr (fn 1 (pr X0 (.int 29))) (pr kK (fn 9 (pr (fn 1 (pr X0 (.int 29))) (.int 5)))))))
abbrev ED:E:=cmp .lss (var 2) (.int 0)
abbrev Nc:E:=.iff (.not ED) (.not (fn 103 (pr (fn 1 (pr X0 (.int 30))) (pr Ds (fn 9 (pr (fn 1 (pr X0 (.int 30))) (.int 5)))))))
def aEJ:=fb ([X1,X3]) X4<|au fun F p0 p1=>by
 try simp only[ab,aj]at *
 obtain⟨a1,ea1,qa1⟩:=ah ((1)-(E.I F (fn 1 (pr X0 (.int 34)))))
 omega
def ace:=fb ([X3,X6,X8]) X4<|am fun F p0 p1 p2=>by
 try simp only[ab,aj]at *
 obtain⟨a1,ea1,qa1⟩:=ah ((1)-(E.I F (fn 1 (pr X0 (.int 34)))))
 omega
def akn:=fb ((.not X1)::ZQ) XG<|aT fun F p0 p1 p2 p3 p4=>by
 have g0:E.I F (fn 1 (pr X0 (.int 34)))=(1):=by
  try simp only[ab]at *
  omega
 have g1:E.I F _=E.I F (.int 2):=rfl;exact gG 1 2 22 (by decide) (by rfl) g0 g1
def aGk:=fb (X2::Km) XG<|aF fun F p0 p1 p2 p3=>by
 have g0:E.I F (fn 1 (pr X0 (.int 34)))=(1):=by
  try simp only[ab,aj]at *
  obtain⟨a1,ea1,qa1⟩:=ah ((1)-(E.I F (fn 1 (pr X0 (.int 34)))))
  omega
 have g1:E.I F _=E.I F (.int 2):=rfl;exact gG 1 2 22 (by decide) (by rfl) g0 g1
def agt:=fb (X1::rA) (fn 109 (pr (fn 1 (pr X0 (.int 8))) LB))<|au fun F p0 p1=>by
 have g0:=by
  try simp only[ab]at *
  omega
 have g1:E.I F _=E.I F (.int 2):=rfl;exact gG 0 2 8 (by decide) (by rfl) g0 g1
def azp:=fb ZQ Wn<|aF fun F p0 p1 p2 p3=>by
 have g0:E.I F (fn 7 (pr (.int 1) (fn 1 (pr X0 (.int 34)))))=(1):=by
  try simp only[ab,aj]at *
  obtain⟨a1,ea1,qa1⟩:=ah ((1)-(E.I F (fn 1 (pr X0 (.int 34)))))
  omega
 have g1:E.I F _=E.I F (.int 2):=rfl;exact gG 1 2 22 (by decide) (by rfl) g0 g1
def azZ:=fb (X2::Km) X21<|aF fun F p0 p1 p2 p3=>by
 have g0:E.I F (fn 7 (pr (.int 1) (fn 1 (pr X0 (.int 34)))))=(0):=by
  try simp only[ab,aj]at *
  obtain⟨a1,ea1,qa1⟩:=ah ((1)-(E.I F (fn 1 (pr X0 (.int 34)))))
  omega
 have g1:E.I F _=E.I F (.int 2):=rfl;exact gG 0 2 8 (by decide) (by rfl) g0 g1
def auo:=fb (X1::rA) Wn<|au fun F p0 p1=>by
 have g0:E.I F (fn 7 (pr (.int 1) (fn 1 (pr X0 (.int 34)))))=(1):=by
  try simp only[ab]at *
  omega
 have g1:E.I F _=E.I F (.int 2):=rfl;exact gG 1 2 22 (by decide) (by rfl) g0 g1
def ase:=fb (X1::X2::rA) X21<|am fun F p0 p1 p2=>by
 have g0:E.I F (fn 7 (pr (.int 1) (fn 1 (pr X0 (.int 34)))))=(0):=by
  try simp only[ab,aj]at *
  obtain⟨a1,ea1,qa1⟩:=ah ((1)-(E.I F (fn 1 (pr X0 (.int 34)))))
  omega
 have g1:E.I F _=E.I F (.int 2):=rfl;exact gG 0 2 8 (by decide) (by rfl) g0 g1
def Si:=fb rA (.not (cmp .lss (.int 30) (fn 0 (fn 1 (pr X0 (.int 31))))))<|az fun F p0=>by
 have:=aw p0
 try simp only[ab]at *
 omega
def aAl:=fa ((fn 111 (pr X0 (.int 0))))<|fun F=>by
 rfl
def awW:=fa ((fn 113 (pr (fn 10 (.int 0)) (pr X0 (pr (.int 0) (.int 0))))))<|fun F=>by
 grind[ah7,VO]
def alR:=fb (tX::X26::Nq::X27::RZ) uE<|gk fun F p0 p1 p2 p3 p4 p5 p6 p7 p8 p9 ao=>by
 have:=fun a b c d hm=>@BQ F _ (fn 6 (pr dC (.int 1))) _ _ _ p6 a b p7 p8 c d ao hm
 try simp only[ab]at *
 grind
def NE:=fb B5 (.not (cmp .lss (.ar .add .i64 dC (.int 1)) (.int 0)))<|am fun F p0 p1 p2=>by
 have:=aw p0
 try simp only[ab,aj]at *
 obtain⟨a3,ea3,qa3⟩:=ah ((E.I F dC)+(1))
 omega
def aCr:=fb (tX::(fn 32 (pr zo (pr (fn 1 (pr (fn 1 (pr X0 (.int 31))) dC)) kK)))::RZ) uE<|dK fun F p0 p1 p2 p3 p4 p5 p6 p7 p8=>by
 have:=fun a b c d hm=>@BQ F _ (fn 6 (pr dC (.int 1))) _ _ _ p4 a b p5 p6 c d p8 hm
 try simp only[ab]at *
 grind
def Uu:=fb rA (.not (cmp .lss (.int 30) (fn 9 (pr (fn 1 (pr X0 (.int 32))) (.int 2)))))<|az fun F p0=>by
 have:=aw p0
 try simp only[ab]at *
 omega
def RX:=fb B5 (.not (cmp .lss (fn 0 (fn 1 (pr X0 (.int 31)))) (.ar .add .i64 dC (.int 1))))<|am fun F p0 p1 p2=>by
 try simp only[ab,aj]at *
 obtain⟨a3,ea3,qa3⟩:=ah ((E.I F dC)+(1))
 omega
def ajy:=fb ((.not tX)::X9::X39::R5) z8<|aF fun F p0 p1 p2 p3=>by
 have g0:E.I F (fn 0 (fn 1 (pr X0 (.int 31))))=E.I F dC:=by
  try simp only[ab]at *
  omega
 grind[anL]
def aFV:=fb ZU (fn 111 (pr X0 (.ar .add .i64 dC (.int 1))))<|iv fun F p0 p1 p2 p3 p4 p5 p6 p7 p8 p9 ao av=>by
 have:=aw p7
 have:=@aA F dC (.int 1)
 have:=fun a b c d hm=>@BQ F _ (.ar .add .i64 dC (.int 1)) _ _ _ p6 a b p8 p9 c d av hm
 try simp only[ab]at *
 grind
def arf:=fa ((fn 112 (pr X0 (.int 0))))<|fun F=>by
 rfl
def aoS:=fb ZU (fn 113 (pr (fn 34 (pr zo (pr (fn 1 (pr (fn 1 (pr X0 (.int 31))) dC)) Ds))) (pr X0 (pr (.ar .add .i64 dC (.int 1)) (.int 0)))))<|iv fun F p0 p1 p2 p3 p4 p5 p6 p7 p8 p9 ao av=>by
 have:=aw p7
 have:=@aA F dC (.int 1)
 have:=fun a b c d hm=>@BQ F _ (.ar .add .i64 dC (.int 1)) _ _ _ p6 a b p8 p9 c d av hm
 try simp only[ab]at *
 grind
def aEZ:=fb ((.not tX)::X9::U9::R5) (fn 113 (pr zo (pr X0 (pr (fn 0 (fn 1 (pr X0 (.int 31)))) (.int 0)))))<|aF fun F p0 p1 p2 p3=>by
 have g0:E.I F (fn 0 (fn 1 (pr X0 (.int 31))))=E.I F dC:=by
  try simp only[ab]at *
  omega
 grind[aC4]
def ad2:=fb B5 (cmp .lss (fn 7 (pr (fn 0 (fn 1 (pr X0 (.int 31)))) (.ar .add .i64 dC (.int 1)))) (fn 7 (pr (fn 0 (fn 1 (pr X0 (.int 31)))) dC)))<|am fun F p0 p1 p2=>by
 have:=aw p0
 try simp only[ab,aj]at *
 obtain⟨a3,ea3,qa3⟩:=ah ((E.I F dC)+(1))
 omega
def aeW:=fb (pW::Js::SY::X73::FF) uE<|iv fun F p0 p1 p2 p3 p4 p5 p6 p7 p8 p9 ao av=>by
 have hw:1<=E.I F _->E.I F _<=500->E.I F _=-(E.I F (fn 1 (pr (fn 1 (pr X0 (.int 32))) (fn 6 (pr (fn 8 (pr bO (.int 2))) (.int 0)))))):=tx
 have:=fun a b c d e hm=>@uk F _ (fn 6 (pr bO (.int 1))) _ _ _ (.ar .sub .i64 (.int 0) (fn 1 (pr (fn 1 (pr X0 (.int 32))) (fn 6 (pr (fn 8 (pr bO (.int 2))) (.int 0)))))) av a b p4 p6 p5 c d p8 hm _ _ rfl rfl e
 try simp only[ab]at *
 grind
def axw:=fb Fy (.not (cmp .lss (.ar .add .i64 bO (.int 1)) (.int 0)))<|am fun F p0 p1 p2=>by
 have:=aw p0
 try simp only[ab,aj]at *
 obtain⟨a4,ea4,qa4⟩:=ah ((E.I F bO)+(1))
 omega
def avL:=fb (pW::Js::acj::Ph::FF) uE<|iv fun F p0 p1 p2 p3 p4 p5 p6 p7 p8 p9 ao av=>by
 have hw:1<=E.I F _->E.I F _<=500->E.I F _=-(E.I F (fn 1 (pr (fn 1 (pr X0 (.int 32))) (fn 6 (pr (fn 8 (pr bO (.int 2))) (.int 0)))))):=tx
 have:=fun a b c d e hm=>@uk F _ (fn 6 (pr bO (.int 1))) _ _ _ (.ar .sub .i64 (.int 0) (fn 1 (pr (fn 1 (pr X0 (.int 32))) (fn 6 (pr (fn 8 (pr bO (.int 2))) (.int 0)))))) av a b p4 p6 p5 c d p8 hm _ _ rfl rfl e
 try simp only[ab]at *
 grind
def atv:=fb (pW::(fn 32 (pr qy (pr (fn 1 (pr (fn 1 (pr X0 (.int 32))) (fn 6 (pr (fn 8 (pr bO (.int 2))) (.int 1))))) kK)))::(fn 32 (pr qy (pr (.ar .sub .i64 (.int 0) (fn 1 (pr (fn 1 (pr X0 (.int 32))) (fn 6 (pr (fn 8 (pr bO (.int 2))) (.int 0)))))) kK)))::FF) uE<|gk fun F p0 p1 p2 p3 p4 p5 p6 p7 p8 p9 ao=>by
 have hw:1<=E.I F _->E.I F _<=500->E.I F _=-(E.I F (fn 1 (pr (fn 1 (pr X0 (.int 32))) (fn 6 (pr (fn 8 (pr bO (.int 2))) (.int 0)))))):=tx
 have:=fun a b c d e hm=>@uk F _ (fn 6 (pr bO (.int 1))) _ _ _ (.ar .sub .i64 (.int 0) (fn 1 (pr (fn 1 (pr X0 (.int 32))) (fn 6 (pr (fn 8 (pr bO (.int 2))) (.int 0)))))) ao a b p3 p5 p4 c d p7 hm _ _ rfl rfl e
 try simp only[ab]at *
 grind
def ago:=fb (pW::(.not (fn 32 (pr qy (pr (fn 1 (pr (fn 1 (pr X0 (.int 32))) (fn 6 (pr (fn 8 (pr bO (.int 2))) (.int 1))))) kK))))::FF) uE<|fF fun F p0 p1 p2 p3 p4 p5 p6 p7 p8 p9=>by
 have hw:1<=E.I F _->E.I F _<=500->E.I F _=-(E.I F (fn 1 (pr (fn 1 (pr X0 (.int 32))) (fn 6 (pr (fn 8 (pr bO (.int 2))) (.int 0)))))):=tx
 have:=fun a b c d e hm=>@uk F _ (fn 6 (pr bO (.int 1))) _ _ _ (.ar .sub .i64 (.int 0) (fn 1 (pr (fn 1 (pr X0 (.int 32))) (fn 6 (pr (fn 8 (pr bO (.int 2))) (.int 0)))))) p9 a b p2 p4 p3 c d p6 hm _ _ rfl rfl e
 try simp only[ab]at *
 grind
def ahw:=fb ([(.not pW),Ms,z8,(.not (cmp .lss (fn 9 (pr (fn 1 (pr X0 (.int 32))) (.int 2))) bO))]) (.iff Ds IN)<|aF fun F p0 p1 p2 p3=>by
 have:=@atO F _ _ p2 p1
 try simp only[ab]at *
 grind
def aaq:=fb B5 (.not (cmp .lss (fn 7 (pr (fn 0 (fn 1 (pr X0 (.int 31)))) (.ar .add .i64 dC (.int 1)))) (.int 0)))<|am fun F p0 p1 p2=>by
 try simp only[ab,aj]at *
 obtain⟨a3,ea3,qa3⟩:=ah ((E.I F dC)+(1))
 omega
def aFs:=fb Fy (.not (cmp .lss (fn 9 (pr (fn 1 (pr X0 (.int 32))) (.int 2))) (.ar .add .i64 bO (.int 1))))<|am fun F p0 p1 p2=>by
 try simp only[ab,aj]at *
 obtain⟨a4,ea4,qa4⟩:=ah ((E.I F bO)+(1))
 omega
def ahe:=fb SR (fn 112 (pr X0 (.ar .add .i64 bO (.int 1))))<|lf fun F p0 p1 p2 p3 p4 p5 p6 p7 p8 p9 ao av ax aB aC aE=>by
 have:=aw aE
 have:=@aA F bO (.int 1)
 have hw:1<=E.I F _->E.I F _<=500->E.I F _=-(E.I F (fn 1 (pr (fn 1 (pr X0 (.int 32))) (fn 6 (pr (fn 8 (pr bO (.int 2))) (.int 0)))))):=tx
 have:=fun a b c d e hm=>@uk F _ (.ar .add .i64 bO (.int 1)) _ _ _ (.ar .sub .i64 (.int 0) (fn 1 (pr (fn 1 (pr X0 (.int 32))) (fn 6 (pr (fn 8 (pr bO (.int 2))) (.int 0)))))) aC a b p7 p9 p8 c d av hm _ _ rfl rfl e
 try simp only[ab]at *
 grind
def ahv:=fb SR (fn 113 (pr (fn 34 (pr (fn 34 (pr qy (pr (fn 1 (pr (fn 1 (pr X0 (.int 32))) (fn 6 (pr (fn 8 (pr bO (.int 2))) (.int 1))))) kK))) (pr (.ar .sub .i64 (.int 0) (fn 1 (pr (fn 1 (pr X0 (.int 32))) (fn 6 (pr (fn 8 (pr bO (.int 2))) (.int 0)))))) Ds))) (pr X0 (pr (fn 0 (fn 1 (pr X0 (.int 31)))) (.ar .add .i64 bO (.int 1))))))<|lf fun F p0 p1 p2 p3 p4 p5 p6 p7 p8 p9 ao av ax aB aC aE=>by
 have:=aw aE
 have:=@aA F bO (.int 1)
 have hw:1<=E.I F _->E.I F _<=500->E.I F _=-(E.I F (fn 1 (pr (fn 1 (pr X0 (.int 32))) (fn 6 (pr (fn 8 (pr bO (.int 2))) (.int 0)))))):=tx
 have:=fun a b c d e hm=>@uk F _ (.ar .add .i64 bO (.int 1)) _ _ _ (.ar .sub .i64 (.int 0) (fn 1 (pr (fn 1 (pr X0 (.int 32))) (fn 6 (pr (fn 8 (pr bO (.int 2))) (.int 0)))))) aC a b p7 p9 p8 c d av hm _ _ rfl rfl e
 try simp only[ab]at *
 grind
def ap2:=fb Fy (cmp .lss (fn 7 (pr (fn 9 (pr (fn 1 (pr X0 (.int 32))) (.int 2))) (.ar .add .i64 bO (.int 1)))) (fn 7 (pr (fn 9 (pr (fn 1 (pr X0 (.int 32))) (.int 2))) bO)))<|am fun F p0 p1 p2=>by
 have:=aw p0
 try simp only[ab,aj]at *
 obtain⟨a4,ea4,qa4⟩:=ah ((E.I F bO)+(1))
 omega
def agP:=fb Fy (.not (cmp .lss (fn 7 (pr (fn 9 (pr (fn 1 (pr X0 (.int 32))) (.int 2))) (.ar .add .i64 bO (.int 1)))) (.int 0)))<|am fun F p0 p1 p2=>by
 try simp only[ab,aj]at *
 obtain⟨a4,ea4,qa4⟩:=ah ((E.I F bO)+(1))
 omega
def bm:List Fa:=[aEJ,ace,akn,aGk,agt,azp,azZ,auo,ase,NI,QM,Si,aAl,awW,alR,NE,aCr,Uu,RX,ajy,aFV,arf,aoS,aEZ,ad2,aeW,axw,avL,atv,ago,ahw,aaq,aFs,ahe,ahv,ap2,agP]
theorem aBF:aU Try.prog (bn (akj)):=sc bm (awH) Qu ([]) (by kernel_rfl) (by kernel_rfl)
def Xd:Nl:=nc aBF Qu
def ap8:=fb ([X7]) bY<|az fun F p0=>by
 have:=@b8 F X0
 try simp only[ab]at *
 grind
def aqJ:=fb ([X8,X6,abx]) bY<|am fun F p0 p1 p2=>by
 have:=@b8 F X0
 try simp only[ab]at *
 grind
def at7:=fb ([X8,X6,cq,cx,Pi]) bY<|aT fun F p0 p1 p2 p3 p4=>by
 have:=@b8 F X0
 try simp only[ab]at *
 grind
def apf:=fb ([X8,X6,cq,cx,cA,cH,S0]) bY<|ck fun F p0 p1 p2 p3 p4 p5 p6=>by
 have:=@b8 F X0
 try simp only[ab]at *
 grind
def ags:=fb ([X8,X6,cq,cx,cA,cH,cO,cS,SI]) bY<|dK fun F p0 p1 p2 p3 p4 p5 p6 p7 p8=>by
 have:=@b8 F X0
 try simp only[ab]at *
 grind
def aHa:=fb ([X9,(cmp .lss (.int 200) (fn 9 (pr (fn 1 (pr X0 (.int 30))) (.int 5))))]) bY<|au fun F p0 p1=>by
 have:=aw p0
 try simp only[ab]at *
 grind
def aEX:=fb ([X9,X8,X6,cq,cx,cA,cH,cO,cS,cV,da,XA]) bY<|iv fun F p0 p1 p2 p3 p4 p5 p6 p7 p8 p9 ao av=>by
 have:=@b8 F X0
 try simp only[ab]at *
 grind
def ayi:=fb ([X9,X8,X6,cq,cx,cA,cH,cO,cS,cV,da,dd,de,dl,acf]) bY<|wv fun F p0 p1 p2 p3 p4 p5 p6 p7 p8 p9 ao av ax aB aC=>by
 have:=@b8 F X0
 try simp only[ab]at *
 grind
def aha:=fb ([X9,X8,X6,cq,cx,cA,cH,cO,cS,cV,da,dd,de,dl,dH,aeg]) bY<|lf fun F p0 p1 p2 p3 p4 p5 p6 p7 p8 p9 ao av ax aB aC aE=>by
 have:=@b8 F X0
 try simp only[ab]at *
 grind
def aFM:=fb ([X9,X8,X6,cq,cx,cA,cH,cO,cS,cV,da,dd,de,dl,dH,d5,abL]) bY<|yE fun F p0 p1 p2 p3 p4 p5 p6 p7 p8 p9 ao av ax aB aC aE aL=>by
 have:=@b8 F X0
 try simp only[ab]at *
 grind
def aiP:=fb ([X9,X8,X6,cq,cx,cA,cH,cO,cS,cV,da,dd,de,dl,dH,d5,eA,abO]) bY<|vc fun F p0 p1 p2 p3 p4 p5 p6 p7 p8 p9 ao av ax aB aC aE aL aQ=>by
 have:=@b8 F X0
 try simp only[ab]at *
 grind
def anr:=fb ([X9,X8,X6,cq,cx,cA,cH,cO,cS,cV,da,dd,de,dl,dH,d5,eA,Oh]) bY<|vc fun F p0 p1 p2 p3 p4 p5 p6 p7 p8 p9 ao av ax aB aC aE aL aQ=>by
 have:=@b8 F X0
 try simp only[ab]at *
 grind
def af7:=fb ([X9,X8,X6,cq,cx,cA,cH,cO,cS,cV,da,dd,de,dl,dH,d5,eA,eO,fk,UN]) bY<|Cq fun F p0 p1 p2 p3 p4 p5 p6 p7 p8 p9 ao av ax aB aC aE aL aQ bb bm=>by
 have:=@b8 F X0
 try simp only[ab]at *
 grind
def aBC:=fb ([X9,X8,X6,cq,cx,cA,cH,cO,cS,cV,da,dd,de,dl,dH,d5,eA,eO,fk,fv,aaY]) bY<|abW fun F p0 p1 p2 p3 p4 p5 p6 p7 p8 p9 ao av ax aB aC aE aL aQ bb bm bB=>by
 have:=@b8 F X0
 try simp only[ab]at *
 grind
def aoi:=fb ([X9,X8,X6,cq,cx,cA,cH,cO,cS,cV,da,dd,de,dl,dH,d5,eA,eO,fk,fv,OO]) bY<|abW fun F p0 p1 p2 p3 p4 p5 p6 p7 p8 p9 ao av ax aB aC aE aL aQ bb bm bB=>by
 have:=@b8 F X0
 try simp only[ab]at *
 grind
def aE8:=fb ([X9,X8,X6,cq,cx,cA,cH,cO,cS,cV,da,dd,de,dl,dH,d5,eA,eO,fk,fv,f9,gq,gI,S4]) bY<|ME fun F p0 p1 p2 p3 p4 p5 p6 p7 p8 p9 ao av ax aB aC aE aL aQ bb bm bB bF bR cf=>by
 have:=@b8 F X0
 try simp only[ab]at *
 grind
def aqW:=fb ([X9,X8,X6,cq,cx,cA,cH,cO,cS,cV,da,dd,de,dl,dH,d5,eA,eO,fk,fv,f9,gq,gI,iQ,Ty]) bY<|Uk fun F p0 p1 p2 p3 p4 p5 p6 p7 p8 p9 ao av ax aB aC aE aL aQ bb bm bB bF bR cf cD=>by
 have:=@b8 F X0
 try simp only[ab]at *
 grind
def aDU:=fb ([X9,X8,X6,cq,cx,cA,cH,cO,cS,cV,da,dd,de,dl,dH,d5,eA,eO,fk,fv,f9,gq,gI,iQ,kr,NU]) bY<|ZJ fun F p0 p1 p2 p3 p4 p5 p6 p7 p8 p9 ao av ax aB aC aE aL aQ bb bm bB bF bR cf cD cW=>by
 have:=@b8 F X0
 try simp only[ab]at *
 grind
def ahJ:=fb ([X9,X8,X6,cq,cx,cA,cH,cO,cS,cV,da,dd,de,dl,dH,d5,eA,eO,fk,fv,f9,gq,gI,iQ,kr,nK,PA]) bY<|UX fun F p0 p1 p2 p3 p4 p5 p6 p7 p8 p9 ao av ax aB aC aE aL aQ bb bm bB bF bR cf cD cW dq=>by
 have:=@b8 F X0
 try simp only[ab]at *
 grind
def awr:=fb ([X9,X8,X6,cq,cx,cA,cH,cO,cS,cV,da,dd,de,dl,dH,d5,eA,eO,fk,fv,f9,gq,gI,iQ,kr,nK,aav]) bY<|UX fun F p0 p1 p2 p3 p4 p5 p6 p7 p8 p9 ao av ax aB aC aE aL aQ bb bm bB bF bR cf cD cW dq=>by
 have:=@b8 F X0
 try simp only[ab]at *
 grind
def akQ:=fb ([X9,X8,X6,cq,cx,cA,cH,cO,cS,cV,da,dd,de,dl,dH,d5,eA,eO,fk,fv,f9,gq,gI,iQ,kr,nK,ra,uv,aen]) bY<|ax8 fun F p0 p1 p2 p3 p4 p5 p6 p7 p8 p9 ao av ax aB aC aE aL aQ bb bm bB bF bR cf cD cW dq dY eN=>by
 have:=@b8 F X0
 try simp only[ab]at *
 grind
def aB0:=fb ([X9,X8,X6,cq,cx,cA,cH,cO,cS,cV,da,dd,de,dl,dH,d5,eA,eO,fk,fv,f9,gq,gI,iQ,kr,nK,ra,uv,xK,aae]) bY<|ak3 fun F p0 p1 p2 p3 p4 p5 p6 p7 p8 p9 ao av ax aB aC aE aL aQ bb bm bB bF bR cf cD cW dq dY eN fp=>by
 have:=@b8 F X0
 try simp only[ab]at *
 grind
def axq:=fb ([GN,(var 3)]) sA<|au fun F p0 p1=>by
 simp_all
def axE:=fb ([X9,X8,X6,cq,cx,cA,cH,cO,cS,cV,da,dd,de,dl,dH,d5,eA,eO,fk,fv,f9,gq,gI,iQ,kr,nK,ra,uv,xK,Cr,yR,Nc,ED,GN,(.not (var 3))]) bY<|ayN fun F p0 p1 p2 p3 p4 p5 p6 p7 p8 p9 ao av ax aB aC aE aL aQ bb bm bB bF bR cf cD cW dq dY eN fp gx je ig lC lp=>by
 have:=@b8 F X0
 simp_all
def ar0:=fb ([X9,X8,X6,cq,cx,cA,cH,cO,cS,cV,da,dd,de,dl,dH,d5,eA,eO,fk,fv,f9,gq,gI,iQ,kr,nK,ra,uv,xK,Cr,yR,Nc,(.not ED)]) bY<|aEK fun F p0 p1 p2 p3 p4 p5 p6 p7 p8 p9 ao av ax aB aC aE aL aQ bb bm bB bF bR cf cD cW dq dY eN fp gx je ig=>by
 have:=@b8 F X0
 simp_all
def ap6:=fb ([X9,X8,X6,cq,cx,cA,cH,cO,cS,cV,da,dd,de,dl,dH,d5,eA,eO,fk,fv,f9,gq,gI,iQ,kr,nK,ra,uv,xK,Cr,(.not yR)]) bY<|aon fun F p0 p1 p2 p3 p4 p5 p6 p7 p8 p9 ao av ax aB aC aE aL aQ bb bm bB bF bR cf cD cW dq dY eN fp gx=>by
 have:=@b8 F X0
 simp_all
def aGF:=fb ([X9,X8,X6,cq,cx,cA,cH,cO,cS,cV,da,dd,de,dl,dH,d5,eA,eO,fk,fv,f9,gq,gI,iQ,kr,nK,ra,Se]) bY<|anG fun F p0 p1 p2 p3 p4 p5 p6 p7 p8 p9 ao av ax aB aC aE aL aQ bb bm bB bF bR cf cD cW dq dY=>by
 have:=@b8 F X0
 try simp only[ab]at *
 grind
def afg:=fb ([X9,X8,X6,cq,cx,cA,cH,cO,cS,cV,da,dd,de,dl,dH,d5,eA,eO,fk,fv,f9,gq,gI,iQ,kr,Wd]) bY<|ZJ fun F p0 p1 p2 p3 p4 p5 p6 p7 p8 p9 ao av ax aB aC aE aL aQ bb bm bB bF bR cf cD cW=>by
 have:=@b8 F X0
 try simp only[ab]at *
 grind
def afa:=fb ([X9,X8,X6,cq,cx,cA,cH,cO,cS,cV,da,dd,de,dl,dH,d5,eA,eO,fk,fv,f9,gq,gI,iQ,PG]) bY<|Uk fun F p0 p1 p2 p3 p4 p5 p6 p7 p8 p9 ao av ax aB aC aE aL aQ bb bm bB bF bR cf cD=>by
 have:=@b8 F X0
 try simp only[ab]at *
 grind
def afH:=fb ([X9,X8,X6,cq,cx,cA,cH,cO,cS,cV,da,dd,de,dl,dH,d5,eA,eO,fk,fv,f9,gq,gI,QX]) bY<|ME fun F p0 p1 p2 p3 p4 p5 p6 p7 p8 p9 ao av ax aB aC aE aL aQ bb bm bB bF bR cf=>by
 have:=@b8 F X0
 try simp only[ab]at *
 grind
def aja:=fb ([X9,X8,X6,cq,cx,cA,cH,cO,cS,cV,da,dd,de,dl,dH,d5,eA,eO,fk,fv,f9,gq,QZ]) bY<|aCs fun F p0 p1 p2 p3 p4 p5 p6 p7 p8 p9 ao av ax aB aC aE aL aQ bb bm bB bF bR=>by
 have:=@b8 F X0
 try simp only[ab]at *
 grind
def apS:=fb ([X9,X8,X6,cq,cx,cA,cH,cO,cS,cV,da,dd,de,dl,dH,d5,eA,eO,fk,fv,f9,gq,gI,iQ,kr,nK,ra,uv,xK,Cr,yR,Nc,ED,GN,(var 3),(.iff (var 4) IN),(.not acf),(.not aeg),(.not abL),(.not abO),(.not aaY),(.not S4),(.not Ty),(.not NU),(.not PA),(.not aae)]) (.iff (var 4) (fn 115 X0))<|aD4 fun F p0 p1 p2 p3 p4 p5 p6 p7 p8 p9 ao av ax aB aC aE aL aQ bb bm bB bF bR cf cD cW dq dY eN fp gx je ig lC lp rj rc qG rR qU qp pN pP rE oB Bh=>by
 have:=aw p0
 have:=@b8 F X0
 try simp only[ab]at *
 grind
def auN:=fb ([X9,X8,X6,cq,cx,cA,cH,cO,cS,cV,da,dd,de,dl,dH,d5,eA,eO,fk,fv,f9,ZS]) bY<|Zs fun F p0 p1 p2 p3 p4 p5 p6 p7 p8 p9 ao av ax aB aC aE aL aQ bb bm bB bF=>by
 have:=@b8 F X0
 try simp only[ab]at *
 grind
def aE9:=fb ([X9,X8,X6,cq,cx,cA,cH,cO,cS,cV,da,dd,de,dl,dH,d5,eA,eO,Rv]) bY<|vk fun F p0 p1 p2 p3 p4 p5 p6 p7 p8 p9 ao av ax aB aC aE aL aQ bb=>by
 have:=@b8 F X0
 try simp only[ab]at *
 grind
def asv:=fb ([X9,X8,X6,cq,cx,cA,cH,cO,cS,cV,da,dd,de,dl,dH,d5,abv]) bY<|yE fun F p0 p1 p2 p3 p4 p5 p6 p7 p8 p9 ao av ax aB aC aE aL=>by
 have:=@b8 F X0
 try simp only[ab]at *
 grind
def amE:=fb ([X9,X8,X6,cq,cx,cA,cH,cO,cS,cV,da,dd,de,dl,dH,PS]) bY<|lf fun F p0 p1 p2 p3 p4 p5 p6 p7 p8 p9 ao av ax aB aC aE=>by
 have:=@b8 F X0
 try simp only[ab]at *
 grind
def aAb:=fb ([X9,X8,X6,cq,cx,cA,cH,cO,cS,cV,da,dd,de,dl,aaa]) bY<|wv fun F p0 p1 p2 p3 p4 p5 p6 p7 p8 p9 ao av ax aB aC=>by
 have:=@b8 F X0
 try simp only[ab]at *
 grind
def ao7:=fb ([X9,X8,X6,cq,cx,cA,cH,cO,cS,cV,da,dd,de,Zx]) bY<|rU fun F p0 p1 p2 p3 p4 p5 p6 p7 p8 p9 ao av ax aB=>by
 have:=@b8 F X0
 try simp only[ab]at *
 grind
def as9:=fb ([X9,X8,X6,cq,cx,cA,cH,cO,cS,cV,da,dd,aa0]) bY<|gP fun F p0 p1 p2 p3 p4 p5 p6 p7 p8 p9 ao av ax=>by
 have:=@b8 F X0
 try simp only[ab]at *
 grind
def aFz:=fb ([X9,(cmp .lss (.int 200) (fn 9 (pr (fn 1 (pr X0 (.int 29))) (.int 5))))]) bY<|au fun F p0 p1=>by
 have:=aw p0
 try simp only[ab]at *
 grind
def aiT:=fb ([X9,(cmp .lss (.int 500) (fn 9 (pr (fn 1 (pr X0 (.int 0))) (.int 12))))]) bY<|au fun F p0 p1=>by
 have:=aw p0
 try simp only[ab]at *
 grind
def asB:=fb ([X8,X6,cq,cx,cA,cH,cO,cS,cV,aez]) bY<|fF fun F p0 p1 p2 p3 p4 p5 p6 p7 p8 p9=>by
 have:=@b8 F X0
 try simp only[ab]at *
 grind
def arJ:=fb ([X8,X6,cq,cx,cA,cH,cO,Qt]) bY<|cU fun F p0 p1 p2 p3 p4 p5 p6 p7=>by
 have:=@b8 F X0
 try simp only[ab]at *
 grind
def aot:=fb ([X8,X6,cq,cx,cA,Ox]) bY<|bU fun F p0 p1 p2 p3 p4 p5=>by
 have:=@b8 F X0
 try simp only[ab]at *
 grind
def az9:=fb ([X8,X6,cq,Rt]) bY<|aF fun F p0 p1 p2 p3=>by
 have:=@b8 F X0
 try simp only[ab]at *
 grind
def aBf:=fb ([X8,X5]) bY<|au fun F p0 p1=>by
 have:=@b8 F X0
 try simp only[ab]at *
 grind
def bB:List Fa:=[ap8,aqJ,at7,apf,ags,aHa,aEX,ayi,aha,aFM,aiP,anr,af7,aBC,aoi,aE8,aqW,aDU,ahJ,awr,akQ,aB0,axq,axE,ar0,ap6,aGF,afg,afa,afH,aja,apS,auN,aE9,asv,amE,aAb,ao7,as9,aFz,aiT,asB,arJ,aot,az9,aBf]
theorem agy:aU Try.prog (bn (spV)):=sc bB ([]) Xd ([]) (by kernel_rfl) (by kernel_rfl)
def Xp:Nl:=nc agy Xd
end
end Go.Proofs.Ytnnbmcfabojjjaa.payColours
