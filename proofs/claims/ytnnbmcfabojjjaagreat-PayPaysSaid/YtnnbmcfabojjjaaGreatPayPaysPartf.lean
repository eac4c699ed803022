/-
  PayPays: contracts of functions, part 6.
-/
import Derived.Test.YtnnbmcfabojjjaaGreatPayPaysParte
namespace Go.Proofs.YtnnbmcfabojjjaaGreat.payPays
open Go.ChangeShapes Go.WideShapes Go.ChangeAt Go.RowKit
open Go.SX
open Go.SX.E (fn pr cmp var)
set_option linter.unusedVariables false
set_option linter.unusedSimpArgs false
set_option maxRecDepth 100000
noncomputable section
abbrev K0:E:=var 11
abbrev K1:E:=var 12
abbrev K2:E:=fn 156 (pr K0 K1)
abbrev K3:E:=var 41
abbrev K4:E:=var 42
abbrev K5:E:=pr K3 K4
abbrev K6:E:=fn 157 K5
abbrev K7:E:=var 44
abbrev K8:E:=cmp .lss K7 K4
abbrev K9:E:=cmp .lss K7 (.int 0)
abbrev K10:E:=.not K9
abbrev EO:=[K10]
abbrev zW:E:=var 14
abbrev K13:E:=cmp .eql zW (fn 9 (pr K1 (.int 2)))
abbrev K14:=[K13]
abbrev jB:E:=var 17
abbrev K16:E:=cmp .eql jB (fn 9 (pr K1 (.int 2)))
abbrev K17:=[K16]
abbrev K18:E:=cmp .lss (.int 3) K4
abbrev K19:E:=.not K18
abbrev K20:=K19::EO
abbrev K21:=K8::K20
abbrev K22:=K2::K14
abbrev K23:=K2::K17
abbrev K24:E:=.not (cmp .lss K4 K7)
abbrev K25:=K24::EO
abbrev K26:=K19::K25
abbrev K27:=K8::K26
abbrev K28:=K6::EO
abbrev bO:E:=var 2
abbrev E2:E:=cmp .lss bO (.int 0)
abbrev av:E:=var 0
abbrev K32:E:=cmp .eql (fn 141 (pr av bO)) (.int 0)
abbrev K33:E:=pr av (fn 9 (pr av (.int 14)))
abbrev K34:E:=fn 155 K33
abbrev ie:E:=.not E2
abbrev Af:E:=cmp .lss bO (fn 9 (pr av (.int 14)))
abbrev K37:E:=cmp .eql (fn 142 (pr av bO)) (.int 0)
abbrev aP:E:=var 1
abbrev pt:E:=fn 117 aP
abbrev aZ:E:=var 19
abbrev fj:E:=cmp .lss aZ (fn 9 (pr (fn 1 (pr aP (.int 0))) (.int 12)))
abbrev tj:E:=.not (cmp .lss aZ (.int 0))
abbrev MN:=[fj,tj]
abbrev MO:=pt::MN
abbrev K45:E:=cmp .lss (fn 9 (pr (fn 1 (pr aP (.int 0))) (.int 12))) aZ
abbrev MP:E:=.not K45
abbrev K47:E:=cmp .lss aZ jB
abbrev K48:E:=.not K47
abbrev K49:=[K48]
abbrev K50:E:=pr bO aZ
abbrev K51:E:=pr aP K50
abbrev K52:E:=pr av K51
abbrev E3:E:=fn 143 (pr (fn 10 (.int 0)) K52)
abbrev K54:E:=pr av (pr aP (pr bO (fn 9 (pr (fn 1 (pr aP (.int 0))) (.int 12)))))
abbrev aA:E:=var 16
abbrev K56:E:=cmp .eql (fn 0 aA) (fn 8 (pr jB (.int 2)))
abbrev K57:E:=pr aA K52
abbrev K58:E:=fn 143 K57
abbrev de:E:=var 27
abbrev gL:E:=cmp .eql de (fn 142 (pr av (fn 1 (pr (fn 1 (pr aP (.int 0))) (fn 6 (pr (fn 8 (pr aZ (.int 12))) (.int 1)))))))
abbrev nD:E:=cmp .eql (var 21) (fn 141 (pr av (fn 1 (pr (fn 1 (pr aP (.int 0))) (fn 6 (pr (fn 8 (pr aZ (.int 12))) (.int 1)))))))
abbrev jC:E:=cmp .eql (fn 1 (pr (fn 1 (pr aP (.int 0))) (fn 6 (pr (fn 8 (pr aZ (.int 12))) (.int 2))))) bO
abbrev jD:E:=.not (fn 1 (pr (fn 1 (pr aP (.int 0))) (fn 6 (pr (fn 8 (pr aZ (.int 12))) (.int 9)))))
abbrev nF:E:=cmp .eql (var 21) (.int 1)
abbrev wk:E:=cmp .lss de (.int 4)
abbrev K66:E:=cmp .lss (.int 1) bO
abbrev K67:E:=.not K66
abbrev tk:=[E3,tj,K67,ie,pt]
abbrev E4:E:=pr av (pr aP (pr bO (.ar .add .i64 aZ (.int 1))))
abbrev tl:E:=fn 143 (pr (fn 10 (.int 0)) E4)
abbrev MQ:E:=cmp .lss de (.int 0)
abbrev K72:=tj::K49
abbrev K73:=fj::K72
abbrev MR:=pt::K73
abbrev Ag:E:=cmp .eql bO (.int 0)
abbrev E5:E:=.not Ag
abbrev Ah:E:=cmp .lss (var 34) (.int 0)
abbrev wl:E:=.not Ah
abbrev E6:E:=.iff wl (fn 114 (pr (fn 1 (pr aP (.int 22))) (fn 1 (pr (fn 1 (pr aP (.int 0))) (fn 6 (pr (fn 8 (pr aZ (.int 12))) (.int 0)))))))
abbrev E7:E:=.iff wl (fn 114 (pr (fn 1 (pr aP (.int 8))) (fn 1 (pr (fn 1 (pr aP (.int 0))) (fn 6 (pr (fn 8 (pr aZ (.int 12))) (.int 0)))))))
abbrev K81:E:=cmp .lss jB (.int 1)
abbrev K82:E:=.not K81
abbrev K83:=[K82]
abbrev K84:=K48::K83
abbrev K85:=K58::K84
abbrev K86:=pt::K85
abbrev tn:=tj::K67::ie::K86
abbrev tq:E:=fn 143 (pr aA E4)
abbrev K89:=tj::K86
abbrev E8:E:=.not MQ
abbrev K91:E:=pr (fn 23 (pr (fn 1 (pr (fn 1 (pr aP (.int 0))) (fn 6 (pr (fn 8 (pr aZ (.int 12))) (.int 0))))) (fn 23 (pr de (fn 10 (.int 0)))))) E4
abbrev K92:E:=fn 143 K91
abbrev K93:E:=pr (fn 3 (pr aA (fn 23 (pr (fn 1 (pr (fn 1 (pr aP (.int 0))) (fn 6 (pr (fn 8 (pr aZ (.int 12))) (.int 0))))) (fn 23 (pr de (fn 10 (.int 0)))))))) E4
abbrev K94:E:=fn 143 K93
abbrev K95:E:=cmp .eql aP (.int 1)
abbrev K96:E:=.iff bO (fn 115 av)
abbrev K97:=[K96]
abbrev E9:E:=fn 145 (pr av aP)
abbrev K99:E:=cmp .eql aP (.int 0)
abbrev ta:E:=.bool false
abbrev abf:E:=cmp .lss (.int 20) bO
abbrev cx:E:=var 3
abbrev gj:E:=var 4
abbrev jz:E:=var 5
abbrev jA:E:=var 6
abbrev aNs:E:=pr gj (pr jz jA)
abbrev aNt:E:=pr cx aNs
abbrev aNu:E:=pr bO aNt
abbrev aNv:E:=fn 146 aNu
abbrev abg:E:=.and E9 aNv
abbrev lm:E:=.iff ta abg
abbrev pk:E:=.not abf
abbrev abh:E:=cmp .lss cx (.int 0)
abbrev pm:E:=.not abh
abbrev abi:E:=cmp .lss (.int 20) cx
abbrev tc:E:=.not abi
abbrev abj:E:=cmp .lss gj (.int 0)
abbrev td:E:=.not abj
abbrev abk:E:=cmp .lss (.int 20) gj
abbrev zX:E:=.not abk
abbrev abl:E:=cmp .lss jz (.int 0)
abbrev EP:E:=.not abl
abbrev EQ:E:=cmp .lss (.int 20) jz
abbrev Mp:E:=cmp .lss aP (.int 0)
abbrev abm:E:=cmp .lss (.int 1) aP
abbrev Mq:E:=cmp .lss jA (.int 0)
abbrev abn:E:=cmp .lss (.int 20) jA
abbrev te:E:=.not (cmp .lss (fn 120 (pr aP (pr bO (fn 9 (pr (fn 1 (pr aP (.int 0))) (.int 12)))))) (.int 0))
abbrev tf:E:=cmp .eql cx (fn 120 (pr aP (pr bO (fn 9 (pr (fn 1 (pr aP (.int 0))) (.int 12))))))
abbrev abo:E:=cmp .lss (fn 1 (pr (fn 1 (pr aP (.int 0))) (fn 6 (pr (fn 8 (pr cx (.int 12))) (.int 1))))) (.int 0)
abbrev zY:E:=.not abo
abbrev zZ:E:=cmp .lss (fn 1 (pr (fn 1 (pr aP (.int 0))) (fn 6 (pr (fn 8 (pr cx (.int 12))) (.int 1))))) (fn 9 (pr av (.int 14)))
abbrev z8:E:=cmp .eql (fn 150 (pr av (pr aP bO))) (.int (-1))
abbrev ER:E:=cmp .eql (fn 1 (pr av (fn 6 (pr (fn 8 (pr (fn 1 (pr (fn 1 (pr aP (.int 0))) (fn 6 (pr (fn 8 (pr cx (.int 12))) (.int 1))))) (.int 14))) (.int 1))))) (.int 1)
abbrev Mr:E:=cmp .lss (fn 1 (pr av (fn 6 (pr (fn 8 (pr (fn 1 (pr (fn 1 (pr aP (.int 0))) (fn 6 (pr (fn 8 (pr cx (.int 12))) (.int 1))))) (.int 14))) (.int 7))))) (.int 0)
abbrev abp:E:=cmp .lss (fn 1 (pr av (fn 6 (pr (fn 8 (pr (fn 1 (pr (fn 1 (pr aP (.int 0))) (fn 6 (pr (fn 8 (pr cx (.int 12))) (.int 1))))) (.int 14))) (.int 7))))) (.int 4)
abbrev th:E:=cmp .eql K0 (.int 0)
abbrev ES:E:=.not (cmp .lss (.ar .add .i64 K0 (.int 1)) (.int 1))
abbrev kq:E:=.not (cmp .lss (.int 60) aP)
abbrev ic:E:=cmp .eql (fn 0 av) aP
abbrev qQ:E:=.not (cmp .lss aP (.int 1))
abbrev gK:E:=cmp .lss K0 aP
abbrev dd:E:=var 9
abbrev ET:E:=cmp .eql dd K0
abbrev aNw:E:=cmp .lss K0 (.int 1)
abbrev aNx:E:=.not aNw
abbrev abq:=[aNx]
abbrev ti:=ET::abq
abbrev aNy:E:=.not (cmp .lss aP K0)
abbrev abr:=[aNy]
abbrev EU:E:=.not (cmp .lss aP (.ar .add .i64 K0 (.int 1)))
abbrev i7:E:=cmp .lss aA dd
abbrev lp:E:=.not i7
abbrev nC:E:=.not (cmp .lss dd aA)
abbrev aNz:E:=cmp .lss (fn 7 (pr dd aA)) (.int 0)
abbrev abt:E:=.not aNz
abbrev mo:E:=.not (cmp .lss aA (.int 0))
abbrev aS:E:=var 8
abbrev pn:E:=cmp .eql (fn 0 aS) dd
abbrev Aa:=[pn,ET]
abbrev abu:=mo::Aa
abbrev aNA:=qQ::abu
abbrev aNB:=ic::aNA
abbrev aNC:=kq::aNB
abbrev aND:=gK::aNC
abbrev EV:=i7::aND
abbrev EW:E:=.not (cmp .lss (.ar .add .i64 aA (.int 1)) (.int 0))
abbrev Ms:E:=fn 152 (pr aS (pr av K0))
abbrev abv:E:=cmp .eql (.ar .add .i64 K0 (.int 1)) (.int 1)
abbrev EX:E:=pr av (.ar .add .i64 K0 (.int 1))
abbrev aNE:E:=pr (fn 23 (pr (fn 1 (pr av K0)) (fn 10 (.int 0)))) EX
abbrev abw:E:=fn 152 aNE
abbrev aNF:E:=cmp .lss (.int 2147483648) (fn 6 (pr (fn 7 (pr dd aA)) (.int 1)))
abbrev abx:E:=.not aNF
abbrev Mt:E:=cmp .lss (fn 1 (pr aS aA)) (fn 1 (pr av K0))
abbrev Mu:E:=fn 160 (pr aS (pr (fn 1 (pr av K0)) aA))
abbrev wg:E:=cmp .lss (fn 7 (pr aP (.ar .add .i64 K0 (.int 1)))) (fn 7 (pr aP K0))
abbrev Mv:E:=var 10
abbrev aNG:E:=cmp .lss Mv dd
abbrev aNH:E:=.not aNG
abbrev aNI:=[aNH]
abbrev aby:=pn::aNI
abbrev aNJ:E:=cmp .lss Mv aA
abbrev Mw:E:=.not aNJ
abbrev Ab:E:=cmp .eql Mv aA
abbrev wh:E:=.not (cmp .lss (fn 7 (pr aP (.ar .add .i64 K0 (.int 1)))) (.int 0))
abbrev aNK:=kq::ic::qQ::nC::Aa
abbrev abz:=gK::aNK
abbrev aNL:E:=cmp .lss (.int 2147483648) aA
abbrev abA:E:=.not aNL
abbrev aNM:=qQ::Aa
abbrev aNN:=ic::aNM
abbrev aNO:=kq::aNN
abbrev Mx:=gK::aNO
abbrev aNP:E:=cmp .lss (fn 6 (pr (fn 7 (pr dd aA)) (.int 1))) (.int 0)
abbrev abB:E:=.not aNP
abbrev po:E:=cmp .eql aA (.int 0)
abbrev abC:E:=cmp .eql (fn 6 (pr (fn 7 (pr dd aA)) (.int 1))) (.int 0)
abbrev My:=[po,abC,nC]
abbrev abD:E:=cmp .eql (.ar .add .i64 K0 (.int 1)) (.int 0)
abbrev pp:=lp::po::nC::ti
abbrev abE:E:=cmp .lss (.int 0) (fn 6 (pr (fn 7 (pr dd aA)) (.int 1)))
abbrev Mz:=[i7,po,abC]
abbrev aNQ:=ic::qQ::ti
abbrev aNR:=kq::aNQ
abbrev MA:=gK::aNR
abbrev aNS:=po::Mx
abbrev MB:=i7::aNS
abbrev MC:=nC::pn::ti
abbrev abF:=i7::po::gK::ic::Aa
abbrev abG:E:=cmp .eql (fn 6 (pr (fn 7 (pr dd aA)) (.int 1))) (.ar .add .i64 K0 (.int 1))
abbrev abH:E:=cmp .eql (fn 6 (pr (fn 0 (fn 4 (pr aS (pr aA (fn 6 (pr aA (fn 7 (pr dd aA)))))))) (.int 1))) (fn 6 (pr (fn 7 (pr dd aA)) (.int 1)))
abbrev abI:E:=cmp .eql (fn 6 (pr (fn 0 (fn 4 (pr aS (pr (.int 0) aA)))) (fn 6 (pr (fn 0 (fn 4 (pr aS (pr aA (fn 6 (pr aA (fn 7 (pr dd aA)))))))) (.int 1))))) (fn 6 (pr aA (fn 6 (pr (fn 7 (pr dd aA)) (.int 1)))))
abbrev aNT:=pn::abq
abbrev aNU:=Ms::aNT
abbrev aNV:=mo::aNU
abbrev aNW:=nC::aNV
abbrev aNX:=Mu::aNW
abbrev aNY:=ic::aNX
abbrev aNZ:=kq::aNY
abbrev aN0:=gK::aNZ
abbrev abJ:=lp::aN0
abbrev aN1:E:=pr (fn 3 (pr (fn 23 (pr (fn 1 (pr av K0)) (fn 10 (.int 0)))) (fn 4 (pr aS (pr aA (fn 6 (pr aA (fn 7 (pr dd aA))))))))) EX
abbrev abK:E:=fn 152 aN1
abbrev aN2:E:=pr (fn 3 (pr (fn 4 (pr aS (pr (.int 0) aA))) (fn 3 (pr (fn 23 (pr (fn 1 (pr av K0)) (fn 10 (.int 0)))) (fn 4 (pr aS (pr aA (fn 6 (pr aA (fn 7 (pr dd aA))))))))))) EX
abbrev abL:E:=fn 152 aN2
abbrev aN3:=ic::Mu::mo::Ms::Aa
abbrev aN4:=kq::aN3
abbrev abM:=gK::aN4
abbrev MD:E:=cmp .eql aP gj
abbrev aN5:E:=pr cx aP
abbrev aN6:E:=pr av aN5
abbrev aN7:E:=fn 161 aN6
abbrev abN:E:=.and MD aN7
abbrev abO:E:=.iff ta abN
abbrev Ac:E:=cmp .eql gj aP
abbrev Ad:E:=cmp .lss aS aP
abbrev aN8:E:=cmp .eql (fn 0 cx) gj
abbrev ME:=[aN8,ic]
abbrev abP:=Ac::ME
abbrev aN9:E:=pr av (pr cx aS)
abbrev abQ:E:=fn 161 aN9
abbrev abR:E:=cmp .eql (fn 1 (pr av aS)) (fn 1 (pr cx aS))
abbrev wi:E:=.not (cmp .lss aS (.int 0))
abbrev aOa:E:=cmp .lss (.int 100) gj
abbrev abS:E:=.not aOa
abbrev aOb:=td::ME
abbrev aOc:=abS::aOb
abbrev aOd:=Ac::aOc
abbrev aOe:=wi::aOd
abbrev EY:=Ad::aOe
abbrev aOf:E:=cmp .lss (.ar .add .i64 aS (.int 1)) (.int 0)
abbrev abT:E:=.not aOf
abbrev aOg:E:=cmp .lss (.int 12) (fn 9 (pr av (.int 14)))
abbrev abU:E:=.not aOg
abbrev abV:E:=.and abU K34
abbrev abW:E:=cmp .lss aS (.int 13)
abbrev MF:E:=cmp .lss aS (fn 9 (pr av (.int 14)))
abbrev abX:E:=.imp abU abV
abbrev abY:E:=fn 155 (pr av aS)
abbrev EZ:E:=cmp .lss aA (fn 9 (pr (fn 1 (pr av (fn 6 (pr (fn 8 (pr aS (.int 14))) (.int 12))))) (.int 2)))
abbrev aOh:E:=cmp .lss (.int 3) (fn 9 (pr (fn 1 (pr av (fn 6 (pr (fn 8 (pr aS (.int 14))) (.int 12))))) (.int 2)))
abbrev abZ:E:=.not aOh
abbrev aOi:=[abZ]
abbrev MG:=mo::aOi
abbrev ab0:=EZ::MG
abbrev wj:=[abW,wi]
abbrev aOj:E:=cmp .lss (fn 9 (pr (fn 1 (pr av (fn 6 (pr (fn 8 (pr aS (.int 14))) (.int 12))))) (.int 2))) aA
abbrev ab1:E:=.not aOj
abbrev aOk:=ab1::MG
abbrev ab2:=EZ::aOk
abbrev aOl:E:=pr (fn 1 (pr av (fn 6 (pr (fn 8 (pr aS (.int 14))) (.int 12))))) aA
abbrev ab3:E:=fn 157 aOl
abbrev E0:E:=cmp .lss (.int 40) (fn 0 (fn 1 (pr av (.int 6))))
abbrev pq:E:=.imp ta (fn 117 av)
abbrev ab4:E:=cmp .lss (.int 40) (fn 0 (fn 1 (pr av (.int 7))))
abbrev ab5:E:=cmp .lss (.int 40) (fn 0 (fn 1 (pr av (.int 8))))
abbrev ab6:E:=cmp .lss (.int 40) (fn 0 (fn 1 (pr av (.int 9))))
abbrev ab7:E:=cmp .lss (.int 40) (fn 0 (fn 1 (pr av (.int 20))))
abbrev ab8:E:=cmp .lss (.int 40) (fn 0 (fn 1 (pr av (.int 21))))
abbrev ab9:E:=cmp .lss (.int 40) (fn 0 (fn 1 (pr av (.int 22))))
abbrev aca:E:=cmp .lss (.int 40) (fn 0 (fn 1 (pr av (.int 23))))
abbrev MH:E:=fn 159 av
abbrev aOm:E:=cmp .lss (.int 20) (fn 9 (pr (fn 1 (pr av (.int 29))) (.int 5)))
abbrev acb:E:=.not aOm
abbrev MI:E:=.and acb (fn 158 (pr (fn 1 (pr av (.int 29))) (fn 9 (pr (fn 1 (pr av (.int 29))) (.int 5)))))
abbrev aOn:E:=cmp .lss (.int 20) (fn 9 (pr (fn 1 (pr av (.int 30))) (.int 5)))
abbrev acd:E:=.not aOn
abbrev MJ:E:=.and acd (fn 158 (pr (fn 1 (pr av (.int 30))) (fn 9 (pr (fn 1 (pr av (.int 30))) (.int 5)))))
abbrev E1:E:=.imp (.not (cmp .lss aS (.int 1))) MI
abbrev aOo:E:=cmp .lss aS (.int 2)
abbrev ace:E:=.not aOo
abbrev MK:E:=.imp ace MJ
abbrev Ae:E:=cmp .lss aA (fn 9 (pr (fn 1 (pr av (.int 29))) (.int 5)))
abbrev ML:=[acb]
abbrev aOp:=mo::ML
abbrev acf:=Ae::aOp
abbrev aOq:E:=pr (fn 1 (pr av (.int 29))) aA
abbrev acg:E:=fn 158 aOq
abbrev aOr:E:=cmp .lss (.ar .add .i64 aS (.int 1)) (.int 1)
abbrev aOs:E:=.not aOr
abbrev ach:E:=.imp aOs MI
abbrev MM:E:=cmp .lss aA (fn 9 (pr (fn 1 (pr av (.int 30))) (.int 5)))
abbrev aci:=[acd]
abbrev acj:=mo::aci
abbrev ack:=MM::acj
abbrev aOt:E:=cmp .lss (.ar .add .i64 aS (.int 1)) (.int 2)
abbrev aOu:E:=.not aOt
abbrev acl:E:=.imp aOu MJ
abbrev aOv:E:=pr (fn 1 (pr av (.int 30))) aA
abbrev acm:E:=fn 158 aOv
def oF:List Fa:=[]
theorem a2V:aI Tryz.prog (aX (a1C)):=sc oF ([]) alQ ([]) (by kernel_rfl) (by kernel_rfl)
def alR:Nl:=nc (Ri (kss:=[.down kE]) a2V) alQ
def oG:List Fa:=[]
theorem a2W:aI Tryz.prog (aX (a1D)):=sc oG ([]) alR ([]) (by kernel_rfl) (by kernel_rfl)
def alS:Nl:=nc a2W alR
def aEe:=fb [K2] (.not (cmp .lss (.int 100) (fn 9 (pr K0 (.int 5)))))<|aj fun F p0=>by
 have:=@vT F K0 K1
 simp only[aa]at *;grind
def aEf:=fb [K2] (.not (cmp .lss (.int 100) (fn 9 (pr K1 (.int 2)))))<|aj fun F p0=>by
 have:=@vT F K0 K1
 simp only[aa]at *;grind
def aEg:=fb (K6::K8::EO) (.not (cmp .lss (.int 100) (fn 9 (pr (fn 1 (pr K3 (fn 6 (pr (fn 8 (pr K7 (.int 2))) (.int 1))))) (.int 5)))))<|ag fun F p0 p1 p2=>by
 have:=@ao5 F K7 K4 K3
 simp only[aa]at *;grind
def aEh:=fb K14 (.not (cmp .lss zW (.int 0)))<|aj fun F p0=>by
 have:=yB F (pr K1 (.int 2))
 simp only[aa]at *;grind
def aEi:=fb K17 (.not (cmp .lss jB (.int 0)))<|aj fun F p0=>by
 have:=yB F (pr K1 (.int 2))
 simp only[aa]at *;grind
def aEj:=fb K21 (.not (cmp .lss (.ar .add .i64 K7 (.int 1)) (.int 0)))<|ag fun F p0 p1 p2=>by
 simp only[aa,ab]at *
 obtain⟨a,b,c⟩:=ae (E.I F K7+1)
 omega
def aEk:=fb K22 (.not (cmp .lss (.int 3) zW))<|ai fun F p0 p1=>by
 have:=@vT F K0 K1
 simp only[aa]at *;grind
def aEl:=fb K23 (.not (cmp .lss (.int 3) jB))<|ai fun F p0 p1=>by
 have:=@vT F K0 K1
 simp only[aa]at *;grind
def aEm:=fb K27 (.not (cmp .lss K4 (.ar .add .i64 K7 (.int 1))))<|am fun F p0 p1 p2 p3=>by
 simp only[aa,ab]at *
 obtain⟨a,b,c⟩:=ae (E.I F K7+1)
 omega
def aEn:=fb K22 (fn 157 (pr K1 zW))<|ai fun F p0 p1=>by
 have:=@vT F K0 K1
 have:=@ao4 F (fn 9 (pr K1 (.int 2))) zW K1
 simp only[aa]at *;grind
def aEo:=fb K23 (fn 157 (pr K1 jB))<|ai fun F p0 p1=>by
 have:=@vT F K0 K1
 have:=@ao4 F (fn 9 (pr K1 (.int 2))) jB K1
 simp only[aa]at *;grind
def aEp:=fb (K8::(cmp .eql (fn 9 (pr (fn 1 (pr K3 (fn 6 (pr (fn 8 (pr K7 (.int 2))) (.int 1))))) (.int 5))) (.int 0))::K28) (fn 157 (pr (fn 2 (pr K3 (pr (fn 6 (pr (fn 8 (pr K7 (.int 2))) (.int 1))) (fn 30 (.int 0))))) K4))<|am fun F p0 p1 p2 p3=>by
 have:=@ao6 F K7 K4 (fn 30 (.int 0)) K3
 have:=@a09 F (.int 0) 5
 simp only[aa]at *;grind
def aEq:=fb (K8::K28) (fn 157 (pr (fn 2 (pr K3 (pr (fn 6 (pr (fn 8 (pr K7 (.int 2))) (.int 1))) (fn 28 (pr (pr (var 47) (var 45)) (fn 1 (pr K3 (fn 6 (pr (fn 8 (pr K7 (.int 2))) (.int 1)))))))))) K4))<|ag fun F p0 p1 p2=>by
 have:=@ao5 F K7 K4 K3
 have:=@ao6 F K7 K4 (fn 28 (pr (pr (var 47) (var 45)) (fn 1 (pr K3 (fn 6 (pr (fn 8 (pr K7 (.int 2))) (.int 1))))))) K3
 have:=@a08 F (fn 1 (pr K3 (fn 6 (pr (fn 8 (pr K7 (.int 2))) (.int 1))))) (pr (var 47) (var 45))
 simp only[aa]at *;grind
def aEr:=fb K21 (cmp .lss (fn 7 (pr K4 (.ar .add .i64 K7 (.int 1)))) (fn 7 (pr K4 K7)))<|ag fun F p0 p1 p2=>by
 simp only[aa,ab]at *
 obtain⟨a,b,c⟩:=ae (E.I F K7+1)
 omega
def aEs:=fb K27 (.not (cmp .lss (fn 7 (pr K4 (.ar .add .i64 K7 (.int 1)))) (.int 0)))<|am fun F p0 p1 p2 p3=>by
 simp only[aa,ab]at *
 obtain⟨a,b,c⟩:=ae (E.I F K7+1)
 omega
def vu:List Fa:=[aEe,aEf,aEg,aEh,aEi,aEj,aEk,aEl,aEm,aEn,aEo,aEp,aEq,aEr,aEs]
theorem a2X:aI Tryz.prog (aX (a1B)):=sc vu (aVH) alS ([]) (by kernel_rfl) (by kernel_rfl)
def alT:Nl:=nc (Ri (kss:=List.replicate 12 .stay++[.down u9]) a2X) alS
def aEt:=fb [E2] K32<|aj fun F p0=>by
 have:=@xI F bO av
 simp only[aa]at *;grind
def aEu:=fb [K34,ie,Af] (fn 156 (pr (fn 1 (pr av (fn 6 (pr (fn 8 (pr bO (.int 14))) (.int 11))))) (fn 1 (pr av (fn 6 (pr (fn 8 (pr bO (.int 14))) (.int 12)))))))<|ag fun F p0 p1 p2=>by
 have:=@a48 F bO (fn 9 (pr av (.int 14))) av
 simp only[aa]at *;grind
def aEv:=fb [ie,(.not Af)] K32<|ai fun F p0 p1=>by
 have:=@xI F bO av
 simp only[aa]at *;grind
def aEw:=fb [E2] K37<|aj fun F p0=>by
 have:=@xI F bO av
 simp only[aa]at *;grind
def aEx:=fb [ie,Af] (cmp .eql (fn 1 (pr av (fn 6 (pr (fn 8 (pr bO (.int 14))) (.int 1))))) (fn 141 (pr av bO)))<|ai fun F p0 p1=>by
 have:=@xH F bO av
 simp only[aa]at *;grind
def aEy:=fb [ie,(.not Af)] K37<|ai fun F p0 p1=>by
 have:=@xI F bO av
 simp only[aa]at *;grind
def aEz:=fb [ie,Af] (cmp .eql (fn 1 (pr av (fn 6 (pr (fn 8 (pr bO (.int 14))) (.int 7))))) (fn 142 (pr av bO)))<|ai fun F p0 p1=>by
 have:=@xH F bO av
 simp only[aa]at *;grind
def vv:List Fa:=[aEt,aEu,aEv,aEw,aEx,aEy,aEz]
theorem a2Y:aI Tryz.prog (aX (a1Z)):=sc vv ([]) alT ([]) (by kernel_rfl) (by kernel_rfl)
def alU:Nl:=nc (Ri (kss:=List.replicate 11 .stay++[.down kE,.down u9]) a2Y) alT
def aEA:=fb [pt] (.not (cmp .lss (.int 30) (fn 9 (pr (fn 1 (pr aP (.int 0))) (.int 12)))))<|aj fun F p0=>by
 have:=ap p0
 simp only[aa]at *;omega
def aEB:=fa ((fn 143 (pr (fn 10 (.int 0)) (pr av (pr aP (pr bO (.int 0)))))))<|fun F=>by
 rfl
def aEC:=fb MO (.not (cmp .lss (.ar .add .i64 aZ (.int 1)) (.int 0)))<|ag fun F p0 p1 p2=>by
 have:=ap p0
 simp only[aa,ab]at *
 obtain⟨a,b,c⟩:=ae (E.I F aZ+1)
 omega
def aED:=fb [pt] (.not (cmp .lss (.int 1000) (fn 0 (fn 1 (pr aP (.int 8))))))<|aj fun F p0=>by
 have:=ap p0
 simp only[aa]at *;omega
def aEE:=fb [pt] (.not (cmp .lss (.int 1000) (fn 0 (fn 1 (pr aP (.int 22))))))<|aj fun F p0=>by
 have:=ap p0
 simp only[aa]at *;omega
def aEF:=fa ((cmp .eql (fn 8 (pr (.int 0) (.int 2))) (.int 0)))<|fun F=>by
 rfl
def aEG:=fb ((.not fj)::MP::K49) (.not (cmp .lss (fn 9 (pr (fn 1 (pr aP (.int 0))) (.int 12))) jB))<|ag fun F p0 p1 p2=>by
 simp only[aa]at *;omega
def aEH:=fb MN (.not (cmp .lss (fn 9 (pr (fn 1 (pr aP (.int 0))) (.int 12))) (.ar .add .i64 aZ (.int 1))))<|ai fun F p0 p1=>by
 simp only[aa,ab]at *
 obtain⟨a,b,c⟩:=ae (E.I F aZ+1)
 omega
def aEI:=fb [(.not fj),E3,MP] (fn 143 (pr (fn 10 (.int 0)) K54))<|ag fun F p0 p1 p2=>by
 have:=@ao3 F (fn 10 (.int 0)) aZ bO (fn 9 (pr (fn 1 (pr aP (.int 0))) (.int 12))) aP av
 simp only[aa]at *;grind
def aEJ:=fb [K56,(.not (cmp .lss (var 18) jB))] (.not (cmp .lss (var 18) (.int 0)))<|ai fun F p0 p1=>by
 simp only[aa]at *
 have:=@cm F aA
 omega
def aEK:=fb [(.not fj),MP,K58] (fn 143 (pr aA K54))<|ag fun F p0 p1 p2=>by
 have:=@ao3 F aA aZ bO (fn 9 (pr (fn 1 (pr aP (.int 0))) (.int 12))) aP av
 simp only[aa]at *;grind
def aEL:=fb (fj::gL::nD::jC::jD::nF::(.not wk)::tk) tl<|jV fun F p0 p1 p2 p3 p4 p5 p6 p7 p8 p9 ao au=>by
 have:=ap au
 have:=@ay F aZ (.int 1)
 have:=fun hp hv h0 hn=>@dQ F _ _ _ (.ar .add .i64 aZ (.int 1)) _ _ _ p7 _ _ _ _ de rfl rfl rfl rfl (jR hp) h0 hn hv
 have:=fun hp hv h0 hn=>@dQ F _ _ _ (.ar .add .i64 aZ (.int 1)) _ _ _ p7 _ _ _ _ de rfl rfl rfl rfl (jS hp) h0 hn hv
 simp only[aa]at *;grind
def aEM:=fb (fj::gL::nD::jC::jD::nF::MQ::tk) tl<|jV fun F p0 p1 p2 p3 p4 p5 p6 p7 p8 p9 ao au=>by
 have:=ap au
 have:=@ay F aZ (.int 1)
 have:=fun hp hv h0 hn=>@dQ F _ _ _ (.ar .add .i64 aZ (.int 1)) _ _ _ p7 _ _ _ _ de rfl rfl rfl rfl (jR hp) h0 hn hv
 have:=fun hp hv h0 hn=>@dQ F _ _ _ (.ar .add .i64 aZ (.int 1)) _ _ _ p7 _ _ _ _ de rfl rfl rfl rfl (jS hp) h0 hn hv
 simp only[aa]at *;grind
def aEN:=fb (fj::gL::nD::jC::jD::(.not nF)::tk) tl<|eW fun F p0 p1 p2 p3 p4 p5 p6 p7 p8 p9 ao=>by
 have:=ap ao
 have:=@ay F aZ (.int 1)
 have:=fun hp hv h0 hn=>@dQ F _ _ _ (.ar .add .i64 aZ (.int 1)) _ _ _ p6 _ _ _ _ de rfl rfl rfl rfl (jR hp) h0 hn hv
 have:=fun hp hv h0 hn=>@dQ F _ _ _ (.ar .add .i64 aZ (.int 1)) _ _ _ p6 _ _ _ _ de rfl rfl rfl rfl (jS hp) h0 hn hv
 simp only[aa]at *;grind
def aEO:=fb (fj::gL::jC::(fn 1 (pr (fn 1 (pr aP (.int 0))) (fn 6 (pr (fn 8 (pr aZ (.int 12))) (.int 9)))))::tk) tl<|b8 fun F p0 p1 p2 p3 p4 p5 p6 p7 p8=>by
 have:=ap p8
 have:=@ay F aZ (.int 1)
 have:=fun hp hv h0 hn=>@dQ F _ _ _ (.ar .add .i64 aZ (.int 1)) _ _ _ p4 _ _ _ _ de rfl rfl rfl rfl (jR hp) h0 hn hv
 have:=fun hp hv h0 hn=>@dQ F _ _ _ (.ar .add .i64 aZ (.int 1)) _ _ _ p4 _ _ _ _ de rfl rfl rfl rfl (jS hp) h0 hn hv
 simp only[aa]at *;grind
def aEP:=fb (fj::gL::(.not jC)::tk) tl<|b7 fun F p0 p1 p2 p3 p4 p5 p6 p7=>by
 have:=ap p7
 have:=@ay F aZ (.int 1)
 have:=fun hp hv h0 hn=>@dQ F _ _ _ (.ar .add .i64 aZ (.int 1)) _ _ _ p3 _ _ _ _ de rfl rfl rfl rfl (jR hp) h0 hn hv
 have:=fun hp hv h0 hn=>@dQ F _ _ _ (.ar .add .i64 aZ (.int 1)) _ _ _ p3 _ _ _ _ de rfl rfl rfl rfl (jS hp) h0 hn hv
 simp only[aa]at *;grind
def aEQ:=fb MR (.not (cmp .lss (.ar .add .i64 aZ (.int 1)) jB))<|am fun F p0 p1 p2 p3=>by
 have:=ap p0
 simp only[aa,ab]at *
 obtain⟨a,b,c⟩:=ae (E.I F aZ+1)
 omega
def aER:=fb MR (.not (cmp .lss (.int 2147483648) (fn 6 (pr jB (.int 1)))))<|am fun F p0 p1 p2 p3=>by
 have:=ap p0
 simp only[aa]at *;omega
def aES:=fb MO (cmp .lss (fn 7 (pr (fn 9 (pr (fn 1 (pr aP (.int 0))) (.int 12))) (.ar .add .i64 aZ (.int 1)))) (fn 7 (pr (fn 9 (pr (fn 1 (pr aP (.int 0))) (.int 12))) aZ)))<|ag fun F p0 p1 p2=>by
 have:=ap p0
 simp only[aa,ab]at *
 obtain⟨a,b,c⟩:=ae (E.I F aZ+1)
 omega
def aET:=fa ((cmp .eql (fn 8 (pr (.int 1) (.int 2))) (.int 2)))<|fun F=>by
 rfl
def aEU:=fb (fj::gL::jD::E5::E6::Ah::tk) tl<|eW fun F p0 p1 p2 p3 p4 p5 p6 p7 p8 p9 ao=>by
 have:=ap ao
 have:=@ay F aZ (.int 1)
 have:=fun hp hv h0 hn=>@dQ F _ _ _ (.ar .add .i64 aZ (.int 1)) _ _ _ p6 _ _ _ _ de rfl rfl rfl rfl (jS hp) h0 hn hv
 simp only[aa]at *;grind
def aEV:=fb [fj,gL,jD,Ag,E7,Ah,E3,tj,pt] tl<|b8 fun F p0 p1 p2 p3 p4 p5 p6 p7 p8=>by
 have:=ap p8
 have:=@ay F aZ (.int 1)
 have:=fun hp hv h0 hn=>@dQ F _ _ _ (.ar .add .i64 aZ (.int 1)) _ _ _ p6 _ _ _ _ de rfl rfl rfl rfl (jR hp) h0 hn hv
 simp only[aa]at *;grind
def aEW:=fb (fj::gL::nD::jC::jD::nF::(.not wk)::tn) tq<|u3 fun F p0 p1 p2 p3 p4 p5 p6 p7 p8 p9 ao au az aE=>by
 have:=ap ao
 have:=@ay F aZ (.int 1)
 have:=fun hp hv h0 hn=>@dQ F _ _ _ (.ar .add .i64 aZ (.int 1)) _ _ _ au _ _ _ _ de rfl rfl rfl rfl (jR hp) h0 hn hv
 have:=fun hp hv h0 hn=>@dQ F _ _ _ (.ar .add .i64 aZ (.int 1)) _ _ _ au _ _ _ _ de rfl rfl rfl rfl (jS hp) h0 hn hv
 simp only[aa]at *;grind
def aEX:=fb (fj::gL::nD::jC::jD::nF::MQ::tn) tq<|u3 fun F p0 p1 p2 p3 p4 p5 p6 p7 p8 p9 ao au az aE=>by
 have:=ap ao
 have:=@ay F aZ (.int 1)
 have:=fun hp hv h0 hn=>@dQ F _ _ _ (.ar .add .i64 aZ (.int 1)) _ _ _ au _ _ _ _ de rfl rfl rfl rfl (jR hp) h0 hn hv
 have:=fun hp hv h0 hn=>@dQ F _ _ _ (.ar .add .i64 aZ (.int 1)) _ _ _ au _ _ _ _ de rfl rfl rfl rfl (jS hp) h0 hn hv
 simp only[aa]at *;grind
def aEY:=fb (fj::gL::nD::jC::jD::(.not nF)::tn) tq<|jk fun F p0 p1 p2 p3 p4 p5 p6 p7 p8 p9 ao au az=>by
 have:=ap p9
 have:=@ay F aZ (.int 1)
 have:=fun hp hv h0 hn=>@dQ F _ _ _ (.ar .add .i64 aZ (.int 1)) _ _ _ ao _ _ _ _ de rfl rfl rfl rfl (jR hp) h0 hn hv
 have:=fun hp hv h0 hn=>@dQ F _ _ _ (.ar .add .i64 aZ (.int 1)) _ _ _ ao _ _ _ _ de rfl rfl rfl rfl (jS hp) h0 hn hv
 simp only[aa]at *;grind
def aEZ:=fb (fj::gL::jC::(fn 1 (pr (fn 1 (pr aP (.int 0))) (fn 6 (pr (fn 8 (pr aZ (.int 12))) (.int 9)))))::tn) tq<|eW fun F p0 p1 p2 p3 p4 p5 p6 p7 p8 p9 ao=>by
 have:=ap p7
 have:=@ay F aZ (.int 1)
 have:=fun hp hv h0 hn=>@dQ F _ _ _ (.ar .add .i64 aZ (.int 1)) _ _ _ p8 _ _ _ _ de rfl rfl rfl rfl (jR hp) h0 hn hv
 have:=fun hp hv h0 hn=>@dQ F _ _ _ (.ar .add .i64 aZ (.int 1)) _ _ _ p8 _ _ _ _ de rfl rfl rfl rfl (jS hp) h0 hn hv
 simp only[aa]at *;grind
def aE0:=fb (fj::gL::(.not jC)::tn) tq<|fA fun F p0 p1 p2 p3 p4 p5 p6 p7 p8 p9=>by
 have:=ap p6
 have:=@ay F aZ (.int 1)
 have:=fun hp hv h0 hn=>@dQ F _ _ _ (.ar .add .i64 aZ (.int 1)) _ _ _ p7 _ _ _ _ de rfl rfl rfl rfl (jR hp) h0 hn hv
 have:=fun hp hv h0 hn=>@dQ F _ _ _ (.ar .add .i64 aZ (.int 1)) _ _ _ p7 _ _ _ _ de rfl rfl rfl rfl (jS hp) h0 hn hv
 simp only[aa]at *;grind
def aE1:=fb MN (.not (cmp .lss (fn 7 (pr (fn 9 (pr (fn 1 (pr aP (.int 0))) (.int 12))) (.ar .add .i64 aZ (.int 1)))) (.int 0)))<|ai fun F p0 p1=>by
 simp only[aa,ab]at *
 obtain⟨a,b,c⟩:=ae (E.I F aZ+1)
 omega
def aE2:=fb MO (.not (cmp .lss (.ar .add .i64 aZ (.int 1)) (.int 1)))<|ag fun F p0 p1 p2=>by
 have:=ap p0
 simp only[aa,ab]at *
 obtain⟨a,b,c⟩:=ae (E.I F aZ+1)
 omega
def aE3:=fb (fj::gL::jD::E5::E6::Ah::tn) tq<|jk fun F p0 p1 p2 p3 p4 p5 p6 p7 p8 p9 ao au az=>by
 have:=ap p9
 have:=@ay F aZ (.int 1)
 have:=fun hp hv h0 hn=>@dQ F _ _ _ (.ar .add .i64 aZ (.int 1)) _ _ _ ao _ _ _ _ de rfl rfl rfl rfl (jS hp) h0 hn hv
 simp only[aa]at *;grind
def aE4:=fb (fj::gL::jD::Ag::E7::Ah::K89) tq<|eW fun F p0 p1 p2 p3 p4 p5 p6 p7 p8 p9 ao=>by
 have:=ap p7
 have:=@ay F aZ (.int 1)
 have:=fun hp hv h0 hn=>@dQ F _ _ _ (.ar .add .i64 aZ (.int 1)) _ _ _ p8 _ _ _ _ de rfl rfl rfl rfl (jR hp) h0 hn hv
 simp only[aa]at *;grind
def aE5:=fb (fj::gL::nD::jC::jD::nF::E8::wk::E5::E6::wl::tk) K92<|qk fun F p0 p1 p2 p3 p4 p5 p6 p7 p8 p9 ao au az aE aM aN=>by
 have:=ap aN
 have:=@ay F aZ (.int 1)
 have hnil14:aq F (fn 10 (.int 0))=[]:=rfl
 have:=fun hp hv h0 hn=>@dQ F _ _ _ (.ar .add .i64 aZ (.int 1)) _ _ _ au _ _ _ _ de rfl rfl rfl rfl (jS hp) h0 hn hv
 simp only[aa]at *;grind
def aE6:=fb [fj,gL,nD,jC,jD,nF,E8,wk,Ag,E7,wl,E3,tj,pt] K92<|u3 fun F p0 p1 p2 p3 p4 p5 p6 p7 p8 p9 ao au az aE=>by
 have:=ap aE
 have:=@ay F aZ (.int 1)
 have hnil14:aq F (fn 10 (.int 0))=[]:=rfl
 have:=fun hp hv h0 hn=>@dQ F _ _ _ (.ar .add .i64 aZ (.int 1)) _ _ _ au _ _ _ _ de rfl rfl rfl rfl (jR hp) h0 hn hv
 simp only[aa]at *;grind
def aE7:=fb [K56] (cmp .eql (fn 6 (pr (fn 0 aA) (.int 2))) (fn 8 (pr (fn 6 (pr jB (.int 1))) (.int 2))))<|aj fun F p0=>by
 simp only[aa]at *;omega
def aE8:=fb MR (.not (cmp .lss (.ar .add .i64 aZ (.int 1)) (fn 6 (pr jB (.int 1)))))<|am fun F p0 p1 p2 p3=>by
 have:=ap p0
 simp only[aa,ab]at *
 obtain⟨a,b,c⟩:=ae (E.I F aZ+1)
 omega
def aE9:=fb (fj::gL::nD::jC::jD::nF::E8::wk::E5::E6::wl::tn) K94<|CV fun F p0 p1 p2 p3 p4 p5 p6 p7 p8 p9 ao au az aE aM aN bb bl=>by
 have:=ap aM
 have:=@ay F aZ (.int 1)
 have:=fun hp hv h0 hn=>@dQ F _ _ _ (.ar .add .i64 aZ (.int 1)) _ _ _ aN _ _ _ _ de rfl rfl rfl rfl (jS hp) h0 hn hv
 simp only[aa]at *;grind
def aFa:=fb (fj::gL::nD::jC::jD::nF::E8::wk::Ag::E7::wl::K89) K94<|qk fun F p0 p1 p2 p3 p4 p5 p6 p7 p8 p9 ao au az aE aM aN=>by
 have:=ap az
 have:=@ay F aZ (.int 1)
 have:=fun hp hv h0 hn=>@dQ F _ _ _ (.ar .add .i64 aZ (.int 1)) _ _ _ aE _ _ _ _ de rfl rfl rfl rfl (jR hp) h0 hn hv
 simp only[aa]at *;grind
def vw:List Fa:=[aEA,aEB,aEC,aED,aEE,aEF,aEG,aEH,aEI,aEJ,aEK,aEL,aEM,aEN,aEO,aEP,aEQ,aER,aES,aET,aEU,aEV,aEW,aEX,aEY,aEZ,aE0,aE1,aE2,aE3,aE4,aE5,aE6,aE7,aE8,aE9,aFa]
theorem a2Z:aI Tryz.prog (aX (a2h)):=sc vw (aV6) alU (msS) (by kernel_rfl) (by kernel_rfl)
def alV:Nl:=nc a2Z alU
def aFb:=fb (K95::K97) (.iff bO E9)<|ai fun F p0 p1=>by
 have:=@dX F aP av
 have:=@aqa F av
 simp only[aa]at *;grind
def aFc:=fb [(.not K99),(.not K95)] (.iff ta E9)<|ai fun F p0 p1=>by
 have:=@dX F aP av
 simp only[aa]at *;grind
def aFd:=fb (K99::K97) (.iff bO E9)<|ai fun F p0 p1=>by
 have:=@dX F aP av
 have:=@aqa F av
 simp only[aa]at *;grind
def vz:List Fa:=[aFb,aFc,aFd]
theorem a3a:aI Tryz.prog (aX (a1O)):=sc vz ([]) alV ([]) (by kernel_rfl) (by kernel_rfl)
def alX:Nl:=nc a3a alV
def aFe:=fb [ie,abf] lm<|ai fun F p0 p1=>by
 have:=@aV F bO cx gj jz jA
 simp only[aa]at *;grind
def aFf:=fb [ie,pk,pm,abi] lm<|am fun F p0 p1 p2 p3=>by
 have:=@aV F bO cx gj jz jA
 simp only[aa]at *;grind
def aFg:=fb [ie,pk,pm,tc,td,abk] lm<|bq fun F p0 p1 p2 p3 p4 p5=>by
 have:=@aV F bO cx gj jz jA
 simp only[aa]at *;grind
def aFh:=fb [ie,pk,pm,tc,td,zX,EP,EQ] lm<|b7 fun F p0 p1 p2 p3 p4 p5 p6 p7=>by
 have:=@aV F bO cx gj jz jA
 simp only[aa]at *;grind
def aFi:=fb [ie,pk,pm,tc,td,zX,EP,(.not EQ),(.not Mp),(.not abm),(.not Mq),(.not abn),(.iff (var 7) (fn 130 av))] (.iff (var 7) abg)<|jk fun F p0 p1 p2 p3 p4 p5 p6 p7 p8 p9 ao au az=>by
 have:=@dX F aP av
 have:=@aV F bO cx gj jz jA
 simp only[aa]at *;grind
def aFj:=fb [ie,pk,pm,tc,td,zX,EP,(.not EQ),(.not Mq),abn] lm<|fA fun F p0 p1 p2 p3 p4 p5 p6 p7 p8 p9=>by
 have:=@aV F bO cx gj jz jA
 simp only[aa]at *;grind
def aFk:=fb [ie,pk,pm,tc,td,zX,EP,(.not EQ),Mq] lm<|b8 fun F p0 p1 p2 p3 p4 p5 p6 p7 p8=>by
 have:=@aV F bO cx gj jz jA
 simp only[aa]at *;grind
def aFl:=fb [(.not Mp),abm] lm<|ai fun F p0 p1=>by
 have:=@dX F aP av
 simp only[aa]at *;grind
def aFm:=fb [Mp] lm<|aj fun F p0=>by
 have:=@dX F aP av
 simp only[aa]at *;grind
def aFn:=fb [ie,pk,pm,tc,td,zX,abl] lm<|bL fun F p0 p1 p2 p3 p4 p5 p6=>by
 have:=@aV F bO cx gj jz jA
 simp only[aa]at *;grind
def aFo:=fb [ie,pk,pm,tc,abj] lm<|aw fun F p0 p1 p2 p3 p4=>by
 have:=@aV F bO cx gj jz jA
 simp only[aa]at *;grind
def aFp:=fb [ie,pk,abh] lm<|ag fun F p0 p1 p2=>by
 have:=@aV F bO cx gj jz jA
 simp only[aa]at *;grind
def aFq:=fb [E2] lm<|aj fun F p0=>by
 have:=@aV F bO cx gj jz jA
 simp only[aa]at *;grind
def vA:List Fa:=[aFe,aFf,aFg,aFh,aFi,aFj,aFk,aFl,aFm,aFn,aFo,aFp,aFq]
theorem a3b:aI Tryz.prog (aX (a2f)):=sc vA ([]) alX ([]) (by kernel_rfl) (by kernel_rfl)
def alY:Nl:=nc a3b alX
def aFr:=fb [te,tf] pm<|ai fun F p0 p1=>by
 simp only[aa]at *;omega
def aFs:=fb [te,tf,zY,(.not zZ)] z8<|am fun F p0 p1 p2 p3=>by
 have:=@zh F bO _ _ av (fn 1 (pr (fn 1 (pr aP _)) (fn 6 (pr (fn 8 (pr cx _)) _)))) rfl
 have:=@xI F (fn 1 (pr (fn 1 (pr aP (.int 0))) (fn 6 (pr (fn 8 (pr cx (.int 12))) (.int 1))))) av
 simp only[aa]at *;grind
def aFt:=fb [te,tf,zY,zZ,ER,(.not Mr),(.not abp)] z8<|bL fun F p0 p1 p2 p3 p4 p5 p6=>by
 have:=@zh F bO _ _ av (fn 1 (pr (fn 1 (pr aP _)) (fn 6 (pr (fn 8 (pr cx _)) _)))) rfl
 have:=@xH F (fn 1 (pr (fn 1 (pr aP (.int 0))) (fn 6 (pr (fn 8 (pr cx (.int 12))) (.int 1))))) av
 simp only[aa]at *;grind
def aFu:=fb [te,tf,zY,zZ,ER,(.not Mr),abp] (cmp .eql (fn 1 (pr av (fn 6 (pr (fn 8 (pr (fn 1 (pr (fn 1 (pr aP (.int 0))) (fn 6 (pr (fn 8 (pr cx (.int 12))) (.int 1))))) (.int 14))) (.int 7))))) (fn 150 (pr av (pr aP bO))))<|bL fun F p0 p1 p2 p3 p4 p5 p6=>by
 have:=@zh F bO _ _ av (fn 1 (pr (fn 1 (pr aP _)) (fn 6 (pr (fn 8 (pr cx _)) _)))) rfl
 have:=@xH F (fn 1 (pr (fn 1 (pr aP (.int 0))) (fn 6 (pr (fn 8 (pr cx (.int 12))) (.int 1))))) av
 simp only[aa]at *;grind
def aFv:=fb [te,tf,zY,zZ,ER,Mr] z8<|bq fun F p0 p1 p2 p3 p4 p5=>by
 have:=@zh F bO _ _ av (fn 1 (pr (fn 1 (pr aP _)) (fn 6 (pr (fn 8 (pr cx _)) _)))) rfl
 have:=@xH F (fn 1 (pr (fn 1 (pr aP (.int 0))) (fn 6 (pr (fn 8 (pr cx (.int 12))) (.int 1))))) av
 simp only[aa]at *;grind
def aFw:=fb [te,tf,zY,zZ,(.not ER)] z8<|aw fun F p0 p1 p2 p3 p4=>by
 have:=@zh F bO _ _ av (fn 1 (pr (fn 1 (pr aP _)) (fn 6 (pr (fn 8 (pr cx _)) _)))) rfl
 have:=@xH F (fn 1 (pr (fn 1 (pr aP (.int 0))) (fn 6 (pr (fn 8 (pr cx (.int 12))) (.int 1))))) av
 simp only[aa]at *;grind
def aFx:=fb [te,tf,abo] z8<|ag fun F p0 p1 p2=>by
 have:=@zh F bO _ _ av (fn 1 (pr (fn 1 (pr aP _)) (fn 6 (pr (fn 8 (pr cx _)) _)))) rfl
 have:=@xI F (fn 1 (pr (fn 1 (pr aP (.int 0))) (fn 6 (pr (fn 8 (pr cx (.int 12))) (.int 1))))) av
 simp only[aa]at *;grind
def vB:List Fa:=[aFr,aFs,aFt,aFu,aFv,aFw,aFx]
theorem a3d:aI Tryz.prog (aX (a1Y)):=sc vB ([]) alY ([]) (by kernel_rfl) (by kernel_rfl)
def alZ:Nl:=nc a3d alY
def aFy:=fb [th] ES<|aj fun F p0=>by
 simp only[aa,ab]at *
 obtain⟨a,b,c⟩:=ae (E.I F K0+1)
 omega
def aFz:=fb [th,kq,ic,qQ] gK<|am fun F p0 p1 p2 p3=>by
 simp only[aa]at *;omega
def aFA:=fb ti (.not (cmp .lss dd (.int 0)))<|ai fun F p0 p1=>by
 simp only[aa]at *;omega
def aFB:=fb ((.not gK)::ic::ET::abr) (cmp .eql dd aP)<|am fun F p0 p1 p2 p3=>by
 simp only[aa]at *;omega
def aFC:=fb [gK,th,kq,ic] EU<|am fun F p0 p1 p2 p3=>by
 simp only[aa,ab]at *
 obtain⟨a,b,c⟩:=ae (E.I F K0+1)
 omega
def aFD:=fb [lp,nC] abt<|ai fun F p0 p1=>by
 simp only[aa]at *;omega
def aFE:=fb EV EW<|b7 fun F p0 p1 p2 p3 p4 p5 p6 p7=>by
 simp only[aa,ab]at *
 obtain⟨a,b,c⟩:=ae (E.I F aA+1)
 omega
def aFF:=fb [i7,pn] abt<|ai fun F p0 p1=>by
 simp only[aa]at *;omega
def aFG:=fa ((fn 160 (pr aS (pr (fn 1 (pr av K0)) (.int 0)))))<|fun F=>by
 rfl
def aFH:=fb ((.not gK)::Ms::abr) (fn 152 (pr aS (pr av aP)))<|ag fun F p0 p1 p2=>by
 have:=@a4X F _ _ _ aP p1
 simp only[aa]at *;grind
def YH:=fb [th] abv<|aj fun F p0=>by
 simp only[aa,ab]at *
 obtain⟨a,b,c⟩:=ae (E.I F K0+1)
 omega
def aFI:=fa ((.not (cmp .lss dd (fn 6 (pr aA (fn 7 (pr dd aA)))))))<|fun F=>by
 simp only[aa]at *;omega
def aFJ:=fb EV (.not (cmp .lss dd (.ar .add .i64 aA (.int 1))))<|b7 fun F p0 p1 p2 p3 p4 p5 p6 p7=>by
 simp only[aa,ab]at *
 obtain⟨a,b,c⟩:=ae (E.I F aA+1)
 omega
def aFK:=fb [gK,th,kq,ic,qQ] abw<|aw fun F p0 p1 p2 p3 p4=>by
 have:=@ay F K0 (.int 1)
 have:=@a4Y F _ (.int 0) _ (.ar .add .i64 K0 (.int 1)) (fn 1 (pr av K0)) rfl
 simp only[aa]at *;grind
def aFL:=fb [lp,nC] abx<|ai fun F p0 p1=>by
 simp only[aa]at *;omega
def aFM:=fb (i7::Mt::gK::kq::Mu::abu) (fn 160 (pr aS (pr (fn 1 (pr av K0)) (.ar .add .i64 aA (.int 1)))))<|b7 fun F p0 p1 p2 p3 p4 p5 p6 p7=>by
 have:=@ay F aA (.int 1)
 have:=@a5c F aS aA (.ar .add .i64 aA (.int 1)) (fn 1 (pr av K0))
 simp only[aa]at *;grind
def aFN:=fb [gK,kq,ic,qQ,mo,ET] abx<|bq fun F p0 p1 p2 p3 p4 p5=>by
 simp only[aa]at *;omega
def aFO:=fb [th] wg<|aj fun F p0=>by
 simp only[aa,ab]at *
 obtain⟨a,b,c⟩:=ae (E.I F K0+1)
 omega
def aFP:=fb (lp::nC::aby) Mw<|am fun F p0 p1 p2 p3=>by
 simp only[aa]at *;omega
def aFQ:=fb [Ab] Mw<|aj fun F p0=>by
 simp only[aa]at *;omega
def aFR:=fb EV (cmp .lss (fn 7 (pr dd (.ar .add .i64 aA (.int 1)))) (fn 7 (pr dd aA)))<|b7 fun F p0 p1 p2 p3 p4 p5 p6 p7=>by
 simp only[aa,ab]at *
 obtain⟨a,b,c⟩:=ae (E.I F aA+1)
 omega
def aFS:=fb (i7::aby) Mw<|ag fun F p0 p1 p2=>by
 simp only[aa]at *;omega
def aFT:=fb [gK,th,kq,ic] wh<|am fun F p0 p1 p2 p3=>by
 simp only[aa,ab]at *
 obtain⟨a,b,c⟩:=ae (E.I F K0+1)
 omega
def aFU:=fb (lp::abz) abA<|b7 fun F p0 p1 p2 p3 p4 p5 p6 p7=>by
 simp only[aa]at *;omega
def aFV:=fb EV (.not (cmp .lss (fn 7 (pr dd (.ar .add .i64 aA (.int 1)))) (.int 0)))<|b7 fun F p0 p1 p2 p3 p4 p5 p6 p7=>by
 simp only[aa,ab]at *
 obtain⟨a,b,c⟩:=ae (E.I F aA+1)
 omega
def aFW:=fb (i7::Mx) abA<|bL fun F p0 p1 p2 p3 p4 p5 p6=>by
 simp only[aa]at *;omega
def aFX:=fb [lp,nC] abB<|ai fun F p0 p1=>by
 simp only[aa]at *;omega
def aFY:=fb (lp::Ab::abz) (.not (cmp .lss (.int 2147483648) (fn 6 (pr aA (.int 1)))))<|b8 fun F p0 p1 p2 p3 p4 p5 p6 p7 p8=>by
 simp only[aa]at *;omega
def aFZ:=fb [i7,pn] abB<|ai fun F p0 p1=>by
 simp only[aa]at *;omega
def aF0:=fb My abD<|ag fun F p0 p1 p2=>by
 simp only[aa]at *;omega
def aF1:=fb pp abE<|aw fun F p0 p1 p2 p3 p4=>by
 simp only[aa]at *;omega
def aF2:=fb Mx (.not (cmp .lss (.int 2147483648) (fn 6 (pr aA (fn 6 (pr (fn 7 (pr dd aA)) (.int 1)))))))<|bq fun F p0 p1 p2 p3 p4 p5=>by
 simp only[aa]at *;omega
def aF3:=fb Mz abD<|ag fun F p0 p1 p2=>by
 simp only[aa]at *;omega
def aF4:=fb [i7,po,pn] abE<|ag fun F p0 p1 p2=>by
 simp only[aa]at *;omega
def aF5:=fb My wg<|ag fun F p0 p1 p2=>by
 simp only[aa]at *;omega
def aF6:=fb pp ES<|aw fun F p0 p1 p2 p3 p4=>by
 simp only[aa]at *;omega
def aF7:=fb MA ES<|bq fun F p0 p1 p2 p3 p4 p5=>by
 simp only[aa,ab]at *
 obtain⟨a,b,c⟩:=ae (E.I F K0+1)
 omega
def aF8:=fb (lp::Ab::po::nC::ti) abv<|bq fun F p0 p1 p2 p3 p4 p5=>by
 simp only[aa]at *;omega
def aF9:=fb Mz wg<|ag fun F p0 p1 p2=>by
 simp only[aa]at *;omega
def aGa:=fb MB ES<|b7 fun F p0 p1 p2 p3 p4 p5 p6 p7=>by
 simp only[aa,ab]at *
 obtain⟨a,b,c⟩:=ae (E.I F K0+1)
 omega
def aGb:=fb My wh<|ag fun F p0 p1 p2=>by
 simp only[aa]at *;omega
def aGc:=fb pp EU<|aw fun F p0 p1 p2 p3 p4=>by
 simp only[aa]at *;omega
def aGd:=fb (gK::ic::ti) EU<|am fun F p0 p1 p2 p3=>by
 simp only[aa,ab]at *
 obtain⟨a,b,c⟩:=ae (E.I F K0+1)
 omega
def aGe:=fb pp abw<|aw fun F p0 p1 p2 p3 p4=>by
 simp only[aa]at *;grind
def aGf:=fb (lp::Ab::gK::kq::ic::qQ::MC) (cmp .eql (fn 6 (pr aA (.int 1))) (.ar .add .i64 K0 (.int 1)))<|fA fun F p0 p1 p2 p3 p4 p5 p6 p7 p8 p9=>by
 simp only[aa,ab]at *
 obtain⟨a,b,c⟩:=ae (E.I F K0+1)
 omega
def aGg:=fb Mz wh<|ag fun F p0 p1 p2=>by
 simp only[aa]at *;omega
def aGh:=fb abF EU<|bq fun F p0 p1 p2 p3 p4 p5=>by
 simp only[aa,ab]at *
 obtain⟨a,b,c⟩:=ae (E.I F K0+1)
 omega
def aGi:=fb pp abG<|aw fun F p0 p1 p2 p3 p4=>by
 simp only[aa]at *;omega
def aGj:=fb MA (cmp .eql (fn 6 (pr aA (fn 6 (pr (fn 7 (pr dd aA)) (.int 1))))) (.ar .add .i64 K0 (.int 1)))<|bq fun F p0 p1 p2 p3 p4 p5=>by
 simp only[aa,ab]at *
 obtain⟨a,b,c⟩:=ae (E.I F K0+1)
 omega
def aGk:=fb (lp::Ab::MC) (cmp .eql (fn 6 (pr (fn 0 (fn 4 (pr aS (pr (.int 0) aA)))) (.int 1))) (fn 6 (pr aA (.int 1))))<|bq fun F p0 p1 p2 p3 p4 p5=>by
 have:=@vb F aS (.int 0) aA
 simp only[aa]at *;omega
def aGl:=fb MB abG<|b7 fun F p0 p1 p2 p3 p4 p5 p6 p7=>by
 simp only[aa,ab]at *
 obtain⟨a,b,c⟩:=ae (E.I F K0+1)
 omega
def aGm:=fb pp abH<|aw fun F p0 p1 p2 p3 p4=>by
 simp only[aa]at *;omega
def aGn:=fb (lp::MC) abI<|aw fun F p0 p1 p2 p3 p4=>by
 have:=@vb F aS (.int 0) aA
 have:=@vb F aS aA (fn 6 (pr aA (fn 7 (pr dd aA))))
 simp only[aa]at *;omega
def aGo:=fb abJ (fn 152 (pr (fn 3 (pr (fn 4 (pr aS (pr (.int 0) aA))) (fn 23 (pr (fn 1 (pr av K0)) (fn 10 (.int 0)))))) EX))<|fA fun F p0 p1 p2 p3 p4 p5 p6 p7 p8 p9=>by
 have:=@ay F K0 (.int 1)
 have:=@KP F _ _ _ _ (.ar .add .i64 K0 (.int 1)) _ (fn 0 aS) p7 p4 rfl
 simp only[aa]at *;grind
def aGp:=fb [i7,po,pn] abH<|ag fun F p0 p1 p2=>by
 have:=@vb F aS aA (fn 6 (pr aA (fn 7 (pr dd aA))))
 simp only[aa]at *;omega
def aGq:=fb [i7,mo,pn] abI<|ag fun F p0 p1 p2=>by
 have:=@vb F aS (.int 0) aA
 have:=@vb F aS aA (fn 6 (pr aA (fn 7 (pr dd aA))))
 simp only[aa]at *;omega
def aGr:=fb pp abK<|aw fun F p0 p1 p2 p3 p4=>by
 simp only[aa]at *;grind
def aGs:=fb abJ abL<|fA fun F p0 p1 p2 p3 p4 p5 p6 p7 p8 p9=>by
 have:=@ay F K0 (.int 1)
 have:=@KP F _ _ _ _ (.ar .add .i64 K0 (.int 1)) _ (fn 6 (pr aA (fn 7 (pr dd aA)))) p7 p4 rfl
 simp only[aa]at *;grind
def aGt:=fb (i7::(.not Mt)::po::abM) abK<|eW fun F p0 p1 p2 p3 p4 p5 p6 p7 p8 p9 ao=>by
 have:=@ay F K0 (.int 1)
 have:=@KP F _ _ _ _ (.ar .add .i64 K0 (.int 1)) _ (fn 6 (pr aA (fn 7 (pr dd aA)))) p8 p6 rfl
 simp only[aa]at *;grind
def aGu:=fb (i7::(.not Mt)::abM) abL<|fA fun F p0 p1 p2 p3 p4 p5 p6 p7 p8 p9=>by
 have:=@ay F K0 (.int 1)
 have:=@KP F _ _ _ _ (.ar .add .i64 K0 (.int 1)) _ (fn 6 (pr aA (fn 7 (pr dd aA)))) p7 p5 rfl
 simp only[aa]at *;grind
def aGv:=fb pp wg<|aw fun F p0 p1 p2 p3 p4=>by
 simp only[aa]at *;omega
def aGw:=fb MA wg<|bq fun F p0 p1 p2 p3 p4 p5=>by
 simp only[aa,ab]at *
 obtain⟨a,b,c⟩:=ae (E.I F K0+1)
 omega
def aGx:=fb MB wg<|b7 fun F p0 p1 p2 p3 p4 p5 p6 p7=>by
 simp only[aa,ab]at *
 obtain⟨a,b,c⟩:=ae (E.I F K0+1)
 omega
def aGy:=fb pp wh<|aw fun F p0 p1 p2 p3 p4=>by
 simp only[aa]at *;omega
def aGz:=fb (gK::ic::ti) wh<|am fun F p0 p1 p2 p3=>by
 simp only[aa,ab]at *
 obtain⟨a,b,c⟩:=ae (E.I F K0+1)
 omega
def aGA:=fb abF wh<|bq fun F p0 p1 p2 p3 p4 p5=>by
 simp only[aa,ab]at *
 obtain⟨a,b,c⟩:=ae (E.I F K0+1)
 omega
def vC:List Fa:=[aFy,aFz,aFA,aFB,aFC,aFD,aFE,aFF,aFG,aFH,YH,aFI,aFJ,aFK,aFL,aFM,aFN,aFO,aFP,aFQ,aFR,aFS,aFT,aFU,aFV,aFW,aFX,aFY,aFZ,aF0,aF1,aF2,aF3,aF4,aF5,aF6,aF7,aF8,aF9,aGa,aGb,aGc,aGd,aGe,aGf,aGg,aGh,aGi,aGj,aGk,aGl,aGm,aGn,aGo,aGp,aGq,aGr,aGs,aGt,aGu,aGv,aGw,aGx,aGy,aGz,aGA]
theorem a3e:aI Tryz.prog (aX (a2j)):=sc vC (aV4) alZ ([]) (by kernel_rfl) (by kernel_rfl)
def Jr:Nl:=nc a3e alZ
def aGB:=fb [(.not MD)] abO<|aj fun F p0=>by
 simp_all
def aGC:=fb [MD] Ac<|aj fun F p0=>by
 simp only[aa]at *;omega
def aGD:=fa ((fn 161 (pr av (pr cx (.int 0)))))<|fun F=>by
 rfl
def aGE:=fb (Ad::abP) (cmp .lss aS gj)<|am fun F p0 p1 p2 p3=>by
 simp only[aa]at *;omega
def aGF:=fb [(.not Ad),abQ,(.not (cmp .lss aP aS)),Ac] (.iff (.bool true) abN)<|am fun F p0 p1 p2 p3=>by
 have:=@a5e F _ _ _ aP p1
 simp only[aa]at *;grind
def aGG:=fb (Ad::(.not abR)::wi::abP) abO<|bq fun F p0 p1 p2 p3 p4 p5=>by
 have:=@a5f F av cx aS aP
 simp only[aa]at *;grind
def aGH:=fb EY abT<|bL fun F p0 p1 p2 p3 p4 p5 p6=>by
 simp only[aa,ab]at *
 obtain⟨a,b,c⟩:=ae (E.I F aS+1)
 omega
def aGI:=fb EY (.not (cmp .lss aP (.ar .add .i64 aS (.int 1))))<|bL fun F p0 p1 p2 p3 p4 p5 p6=>by
 simp only[aa,ab]at *
 obtain⟨a,b,c⟩:=ae (E.I F aS+1)
 omega
def aGJ:=fb (Ad::abR::abQ::wi::Ac::abS::ME) (fn 161 (pr av (pr cx (.ar .add .i64 aS (.int 1)))))<|b7 fun F p0 p1 p2 p3 p4 p5 p6 p7=>by
 have:=@ay F aS (.int 1)
 have:=@a5g F _ _ _ (.ar .add .i64 aS (.int 1)) p2
 simp only[aa]at *;grind
def aGK:=fb EY (cmp .lss (fn 7 (pr aP (.ar .add .i64 aS (.int 1)))) (fn 7 (pr aP aS)))<|bL fun F p0 p1 p2 p3 p4 p5 p6=>by
 simp only[aa,ab]at *
 obtain⟨a,b,c⟩:=ae (E.I F aS+1)
 omega
def aGL:=fb EY (.not (cmp .lss (fn 7 (pr aP (.ar .add .i64 aS (.int 1)))) (.int 0)))<|bL fun F p0 p1 p2 p3 p4 p5 p6=>by
 simp only[aa,ab]at *
 obtain⟨a,b,c⟩:=ae (E.I F aS+1)
 omega
def vD:List Fa:=[aGB,aGC,aGD,aGE,aGF,aGG,aGH,aGI,aGJ,aGK,aGL]
theorem a3f:aI Tryz.prog (aX (a1U)):=sc vD (aVQ) Jr ([]) (by kernel_rfl) (by kernel_rfl)
def al0:Nl:=nc a3f Jr
def aGM:=fa ((fn 155 (pr av (.int 0))))<|fun F=>by
 rfl
def aGN:=fb [wi] (.imp ta abV)<|aj fun F p0=>by
 rfl
def aGO:=fa ((fn 157 (pr (fn 1 (pr av (fn 6 (pr (fn 8 (pr aS (.int 14))) (.int 12))))) (.int 0))))<|fun F=>by
 rfl
def aGP:=fb [(.not abW),MF] abX<|ai fun F p0 p1=>by
 simp only[aa]at *;grind
def aGQ:=fb [(.not MF),abY,(.not (cmp .lss (fn 9 (pr av (.int 14))) aS))] abX<|ag fun F p0 p1 p2=>by
 have:=@a47 F aS (fn 9 (pr av (.int 14))) av
 simp only[aa]at *;grind
def aGR:=fb ab0 EW<|ag fun F p0 p1 p2=>by
 simp only[aa,ab]at *
 obtain⟨a,b,c⟩:=ae (E.I F aA+1)
 omega
def aGS:=fb wj abT<|ai fun F p0 p1=>by
 simp only[aa,ab]at *
 obtain⟨a,b,c⟩:=ae (E.I F aS+1)
 omega
def aGT:=fb ab2 (.not (cmp .lss (fn 9 (pr (fn 1 (pr av (fn 6 (pr (fn 8 (pr aS (.int 14))) (.int 12))))) (.int 2))) (.ar .add .i64 aA (.int 1))))<|am fun F p0 p1 p2 p3=>by
 simp only[aa,ab]at *
 obtain⟨a,b,c⟩:=ae (E.I F aA+1)
 omega
def aGU:=fb wj (.not (cmp .lss (.int 13) (.ar .add .i64 aS (.int 1))))<|ai fun F p0 p1=>by
 simp only[aa,ab]at *
 obtain⟨a,b,c⟩:=ae (E.I F aS+1)
 omega
def aGV:=fb (EZ::(.not (cmp .lss (.int 5) (fn 9 (pr (fn 1 (pr (fn 1 (pr av (fn 6 (pr (fn 8 (pr aS (.int 14))) (.int 12))))) (fn 6 (pr (fn 8 (pr aA (.int 2))) (.int 1))))) (.int 5)))))::ab3::MG) (fn 157 (pr (fn 1 (pr av (fn 6 (pr (fn 8 (pr aS (.int 14))) (.int 12))))) (.ar .add .i64 aA (.int 1))))<|aw fun F p0 p1 p2 p3 p4=>by
 have:=@ay F aA (.int 1)
 have:=@a5a F aA (.ar .add .i64 aA (.int 1)) (fn 1 (pr av (fn 6 (pr (fn 8 (pr aS (.int 14))) (.int 12)))))
 simp only[aa]at *;grind
def aGW:=fb (MF::wj) (.not (cmp .lss (fn 9 (pr av (.int 14))) (.ar .add .i64 aS (.int 1))))<|ag fun F p0 p1 p2=>by
 simp only[aa,ab]at *
 obtain⟨a,b,c⟩:=ae (E.I F aS+1)
 omega
def aGX:=fb ab0 (cmp .lss (fn 7 (pr (fn 9 (pr (fn 1 (pr av (fn 6 (pr (fn 8 (pr aS (.int 14))) (.int 12))))) (.int 2))) (.ar .add .i64 aA (.int 1)))) (fn 7 (pr (fn 9 (pr (fn 1 (pr av (fn 6 (pr (fn 8 (pr aS (.int 14))) (.int 12))))) (.int 2))) aA)))<|ag fun F p0 p1 p2=>by
 simp only[aa,ab]at *
 obtain⟨a,b,c⟩:=ae (E.I F aA+1)
 omega
def aGY:=fb ((.not EZ)::ab3::ab1::abZ::(.not (cmp .lss (.int 5) (fn 9 (pr (fn 1 (pr av (fn 6 (pr (fn 8 (pr aS (.int 14))) (.int 11))))) (.int 5)))))::abY::wj) (fn 155 (pr av (.ar .add .i64 aS (.int 1))))<|b7 fun F p0 p1 p2 p3 p4 p5 p6 p7=>by
 have:=@ay F aS (.int 1)
 have:=@a49 F aS (.ar .add .i64 aS (.int 1)) av
 have:=@vT F (fn 1 (pr av (fn 6 (pr (fn 8 (pr aS (.int 14))) (.int 11))))) (fn 1 (pr av (fn 6 (pr (fn 8 (pr aS (.int 14))) (.int 12)))))
 have hy1:E.I F aA=E.I F (fn 9 (pr (fn 1 (pr av (fn 6 (pr (fn 8 (pr aS (.int 14))) (.int 12))))) (.int 2)))->E.B F (fn 157 (pr (fn 1 (pr av (fn 6 (pr (fn 8 (pr aS (.int 14))) (.int 12))))) (fn 9 (pr (fn 1 (pr av (fn 6 (pr (fn 8 (pr aS (.int 14))) (.int 12))))) (.int 2)))))=true:=fun hh=>by simp_all[DZ]
 simp only[aa]at *;grind
def aGZ:=fb ab2 (.not (cmp .lss (fn 7 (pr (fn 9 (pr (fn 1 (pr av (fn 6 (pr (fn 8 (pr aS (.int 14))) (.int 12))))) (.int 2))) (.ar .add .i64 aA (.int 1)))) (.int 0)))<|am fun F p0 p1 p2 p3=>by
 simp only[aa,ab]at *
 obtain⟨a,b,c⟩:=ae (E.I F aA+1)
 omega
def aG0:=fb wj (cmp .lss (fn 7 (pr (.int 13) (.ar .add .i64 aS (.int 1)))) (fn 7 (pr (.int 13) aS)))<|ai fun F p0 p1=>by
 simp only[aa,ab]at *
 obtain⟨a,b,c⟩:=ae (E.I F aS+1)
 omega
def aG1:=fb wj (.not (cmp .lss (fn 7 (pr (.int 13) (.ar .add .i64 aS (.int 1)))) (.int 0)))<|ai fun F p0 p1=>by
 simp only[aa,ab]at *
 obtain⟨a,b,c⟩:=ae (E.I F aS+1)
 omega
def vE:List Fa:=[aGM,aGN,aGO,aGP,aGQ,aGR,aGS,aGT,aGU,aGV,aGW,aGX,aGY,aGZ,aG0,aG1]
theorem a3g:aI Tryz.prog (aX (a1X)):=sc vE (aVT) al0 ([]) (by kernel_rfl) (by kernel_rfl)
def al1:Nl:=nc a3g al0
def aG2:=fb [E0] pq<|aj fun F p0=>by
 rfl
def aG3:=fb [ab4] pq<|aj fun F p0=>by
 rfl
def aG4:=fb [ab5] pq<|aj fun F p0=>by
 rfl
def aG5:=fb [ab6] pq<|aj fun F p0=>by
 rfl
def aG6:=fb [ab7] pq<|aj fun F p0=>by
 rfl
def aG7:=fb [ab8] pq<|aj fun F p0=>by
 rfl
def aG8:=fb [ab9] pq<|aj fun F p0=>by
 rfl
def aG9:=fb [aca] pq<|aj fun F p0=>by
 rfl
def aHa:=fb [(.not E0),(.not ab4),(.not ab5),(.not ab6),(.not ab7),(.not ab8),(.not ab9),(.not aca)] MH<|b7 fun F p0 p1 p2 p3 p4 p5 p6 p7=>by
 have:=@iH F av
 simp only[aa]at *;grind
def aHb:=fb [(.not E0)] (.imp ta MI)<|aj fun F p0=>by
 rfl
def aHc:=fb [(.not E0)] (.imp ta MJ)<|aj fun F p0=>by
 rfl
def aHd:=fb [MH] pq<|aj fun F p0=>by
 rfl
def aHe:=fb [E1] E1<|aj fun F p0=>by
 omega
def aHf:=fb [ace,(.not (cmp .lss (.int 30) (fn 9 (pr (fn 1 (pr av (.int 0))) (.int 12))))),(.not (cmp .lss (.int 30) (fn 0 (fn 1 (pr av (.int 31)))))),MK,E1,MH] (.imp (.not (cmp .lss (.int 30) (fn 9 (pr (fn 1 (pr av (.int 32))) (.int 2))))) (fn 117 av))<|bq fun F p0 p1 p2 p3 p4 p5=>by
 have:=@dw F av
 simp only[aa]at *;grind
def aHg:=fb [MK] MK<|aj fun F p0=>by
 omega
def aHh:=fa ((fn 158 (pr (fn 1 (pr av (.int 29))) (.int 0))))<|fun F=>by
 rfl
def aHi:=fa ((fn 158 (pr (fn 1 (pr av (.int 30))) (.int 0))))<|fun F=>by
 rfl
def aHj:=fb acf EW<|ag fun F p0 p1 p2=>by
 simp only[aa,ab]at *
 obtain⟨a,b,c⟩:=ae (E.I F aA+1)
 omega
def aHk:=fb ((.not Ae)::acg::(.not (cmp .lss (fn 9 (pr (fn 1 (pr av (.int 29))) (.int 5))) aA))::ML) ach<|am fun F p0 p1 p2 p3=>by
 have:=@ao8 F (fn 1 (pr av (.int 29))) aA (fn 9 (pr (fn 1 (pr av (.int 29))) (.int 5)))
 simp only[aa]at *;grind
def aHl:=fb ack EW<|ag fun F p0 p1 p2=>by
 simp only[aa,ab]at *
 obtain⟨a,b,c⟩:=ae (E.I F aA+1)
 omega
def aHm:=fb [(cmp .eql aS (.int 1)),E1] ach<|ai fun F p0 p1=>by
 simp only[aa]at *;simp_all
def aHn:=fb [Ae,mo] (.not (cmp .lss (fn 9 (pr (fn 1 (pr av (.int 29))) (.int 5))) (.ar .add .i64 aA (.int 1))))<|ai fun F p0 p1=>by
 simp only[aa,ab]at *
 obtain⟨a,b,c⟩:=ae (E.I F aA+1)
 omega
def aHo:=fb [(.not (cmp .lss (.int 2) aS)),wi,(cmp .eql aS (.int 0))] acl<|ag fun F p0 p1 p2=>by
 simp only[aa,ab]at *
 obtain⟨a,b,c⟩:=ae (E.I F aS+1)
 omega
def aHp:=fb ((.not MM)::acm::(.not (cmp .lss (fn 9 (pr (fn 1 (pr av (.int 30))) (.int 5))) aA))::aci) acl<|am fun F p0 p1 p2 p3=>by
 have:=@ao8 F (fn 1 (pr av (.int 30))) aA (fn 9 (pr (fn 1 (pr av (.int 30))) (.int 5)))
 simp only[aa]at *;grind
def aHq:=fb (Ae::(.not (cmp .lss (.int 6) (fn 9 (pr (fn 1 (pr (fn 1 (pr av (.int 29))) (fn 6 (pr (fn 8 (pr aA (.int 5))) (.int 4))))) (.int 2)))))::mo::acg::ML) (fn 158 (pr (fn 1 (pr av (.int 29))) (.ar .add .i64 aA (.int 1))))<|aw fun F p0 p1 p2 p3 p4=>by
 have:=@ay F aA (.int 1)
 have:=@ao9 F (fn 1 (pr av (.int 29))) aA (.ar .add .i64 aA (.int 1))
 simp only[aa]at *;grind
def aHr:=fb (MM::(.not (cmp .lss (.int 6) (fn 9 (pr (fn 1 (pr (fn 1 (pr av (.int 30))) (fn 6 (pr (fn 8 (pr aA (.int 5))) (.int 4))))) (.int 2)))))::acm::acj) (fn 158 (pr (fn 1 (pr av (.int 30))) (.ar .add .i64 aA (.int 1))))<|aw fun F p0 p1 p2 p3 p4=>by
 have:=@ay F aA (.int 1)
 have:=@ao9 F (fn 1 (pr av (.int 30))) aA (.ar .add .i64 aA (.int 1))
 simp only[aa]at *;grind
def aHs:=fb acf (cmp .lss (fn 7 (pr (fn 9 (pr (fn 1 (pr av (.int 29))) (.int 5))) (.ar .add .i64 aA (.int 1)))) (fn 7 (pr (fn 9 (pr (fn 1 (pr av (.int 29))) (.int 5))) aA)))<|ag fun F p0 p1 p2=>by
 simp only[aa,ab]at *
 obtain⟨a,b,c⟩:=ae (E.I F aA+1)
 omega
def aHt:=fb ack (cmp .lss (fn 7 (pr (fn 9 (pr (fn 1 (pr av (.int 30))) (.int 5))) (.ar .add .i64 aA (.int 1)))) (fn 7 (pr (fn 9 (pr (fn 1 (pr av (.int 30))) (.int 5))) aA)))<|ag fun F p0 p1 p2=>by
 simp only[aa,ab]at *
 obtain⟨a,b,c⟩:=ae (E.I F aA+1)
 omega
def aHu:=fb [Ae,mo] (.not (cmp .lss (fn 7 (pr (fn 9 (pr (fn 1 (pr av (.int 29))) (.int 5))) (.ar .add .i64 aA (.int 1)))) (.int 0)))<|ai fun F p0 p1=>by
 simp only[aa,ab]at *
 obtain⟨a,b,c⟩:=ae (E.I F aA+1)
 omega
def sa:List Fa:=[aG2,aG3,aG4,aG5,aG6,aG7,aG8,aG9,aHa,aHb,aHc,aHd,aHe,aHf,aHg,aHh,aHi,Zj,Zl,Zs,ZR,aHj,aHk,aHl,aHm,aHn,aHo,YA,aHp,aHq,VO,aHr,VP,aHs,VQ,aHt,VZ,aHu,YB]
theorem a3h:aI Tryz.prog (aX (a2k)):=sc sa (aV5) al1 ([]) (by kernel_rfl) (by kernel_rfl)
def al2:Nl:=nc a3h al1
end
end Go.Proofs.YtnnbmcfabojjjaaGreat.payPays
