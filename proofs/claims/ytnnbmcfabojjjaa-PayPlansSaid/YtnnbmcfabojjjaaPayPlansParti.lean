/-
  PayPlans: contracts of functions, part 9.
-/
import Derived.Test.YtnnbmcfabojjjaaRows
import Derived.Test.YtnnbmcfabojjjaaNat
import Derived.WalkKit
import Derived.ProofKit
import Derived.OpenShut
import Derived.ChangeOld
import Derived.Below
import Derived.KernelRfl
import Derived.Lib.SmallJoins
import Derived.Laws.IdiomArrays
import Derived.Test.YtnnbmcfabojjjaaPayPlansParth
namespace Go.Proofs.Ytnnbmcfabojjjaa.payPlans
open Go.ChangeShapes Go.WideShapes Go.ChangeAt Go.RowKit
open Go.SX
open Go.SX.E (fn pr cmp var)
set_option linter.unusedVariables false
set_option linter.unusedSimpArgs false
set_option maxRecDepth 100000
noncomputable section
abbrev V0:E:=var 3
abbrev V1:E:=var 0
abbrev V2:E:=var 8
abbrev V3:E:=var 1
abbrev V4:E:=cmp .lss V2 V3
abbrev V5:E:=cmp .eql (fn 1 (pr V1 (fn 6 (pr (fn 8 (pr V2 (.int 2))) (.int 1))))) V0
abbrev V6:E:=cmp .eql (fn 175 (pr V0 (pr V1 V2))) (.int (-1))
abbrev V7:E:=cmp .lss V2 (.int 0)
abbrev V8:E:=.not V7
abbrev V9:E:=cmp .eql (fn 0 V1) (fn 8 (pr V3 (.int 2)))
abbrev XR:=[V8,V9]
abbrev oe:E:=.not (cmp .lss (.int 30) V3)
abbrev V12:=[V8,oe]
abbrev V13:=V4::V12
abbrev V15:E:=cmp .lss V3 V2
abbrev Yw:E:=.not V15
abbrev V17:=[Yw]
abbrev V18:=Yw::V12
abbrev V19:=V4::V18
abbrev mZ:E:=.not (cmp .lss V0 (.int 0))
abbrev W8:E:=cmp .eql (fn 175 (pr (.int (-1)) (pr V1 V2))) (.int (-1))
abbrev aQ:E:=var 4
abbrev mG:E:=cmp .eql aQ (.ar .add .i64 V0 (.int 1))
abbrev jm:E:=cmp .lss V0 V3
abbrev aU:E:=var 2
abbrev zN:E:=.not (cmp .lss aU V3)
abbrev V27:E:=cmp .lss V3 (.int 0)
abbrev Nq:E:=.not V27
abbrev V29:=[Nq]
abbrev V30:=zN::V29
abbrev V31:=oe::V30
abbrev V32:=mZ::V31
abbrev V33:=jm::V32
abbrev XY:=mG::V33
abbrev V35:=oe::V29
abbrev pZ:=mG::jm::mZ::V35
abbrev eY:=[jm,(cmp .eql V3 V0)]
abbrev V38:E:=cmp .eql V3 (fn 7 (pr V3 (.int 1)))
abbrev I1:E:=cmp .lss aU V0
abbrev vM:E:=.not I1
abbrev V41:E:=cmp .eql aU aQ
abbrev V42:=[V41]
abbrev V43:=zN::V42
abbrev V44:=jm::V43
abbrev V45:=mG::V44
abbrev zX:E:=pr V1 V0
abbrev V47:E:=fn 186 (pr V1 zX)
abbrev P3:E:=cmp .lss V3 V0
abbrev ML:E:=.not P3
abbrev V50:E:=cmp .lss aU (.int 0)
abbrev OQ:E:=.not V50
abbrev V52:E:=cmp .lss (fn 7 (pr V3 aQ)) (.int 0)
abbrev V53:E:=.not V52
abbrev V54:=V9::V43
abbrev V55:E:=cmp .lss (.int 2147483648) V0
abbrev V56:E:=.not V55
abbrev V57:E:=cmp .lss V3 (fn 6 (pr aQ (fn 7 (pr V3 aQ))))
abbrev V58:E:=.not V57
abbrev V59:E:=cmp .lss (.int 2147483648) (fn 6 (pr V0 (fn 7 (pr V3 aQ))))
abbrev V60:E:=.not V59
abbrev V61:E:=cmp .lss (fn 6 (pr V0 (fn 7 (pr V3 aQ)))) (.int 0)
abbrev V62:E:=.not V61
abbrev V63:E:=cmp .eql (fn 7 (pr V3 V0)) (.int 1)
abbrev V64:=Nq::V42
abbrev V65:=zN::V64
abbrev V66:=oe::V65
abbrev V67:=mZ::V66
abbrev V68:=jm::V67
abbrev V69:=mG::V68
abbrev V70:E:=cmp .lss V3 (fn 6 (pr V0 (fn 7 (pr V3 aQ))))
abbrev V71:E:=.not V70
abbrev V72:E:=cmp .eql (fn 7 (pr V3 (fn 6 (pr V0 (fn 7 (pr V3 aQ)))))) (.int 1)
abbrev V73:E:=cmp .eql V0 (fn 7 (pr V3 (.int 1)))
abbrev W1:E:=cmp .lss (fn 6 (pr V0 (fn 7 (pr V3 aQ)))) aU
abbrev V75:E:=cmp .eql (fn 6 (pr (fn 0 (fn 18 (pr V1 (fn 8 (pr V0 (.int 2)))))) (fn 0 (fn 18 (pr V1 (fn 8 (pr (.int 0) (.int 2)))))))) (fn 8 (pr V0 (.int 2)))
abbrev V76:=oe::V54
abbrev V77:=mZ::V76
abbrev V78:=jm::V77
abbrev V79:=mG::V78
abbrev V80:E:=cmp .eql (fn 6 (pr V0 (fn 7 (pr V3 aQ)))) (fn 7 (pr V3 (.int 1)))
abbrev V81:E:=pr (fn 3 (pr (fn 18 (pr V1 (fn 8 (pr V0 (.int 2))))) (fn 18 (pr V1 (fn 8 (pr (.int 0) (.int 2))))))) zX
abbrev XS:E:=fn 186 V81
abbrev Zq:E:=cmp .eql (fn 6 (pr (fn 0 (fn 18 (pr V1 (fn 8 (pr V0 (.int 2)))))) (fn 0 (fn 4 (pr V1 (pr (fn 8 (pr aQ (.int 2))) (fn 8 (pr (fn 6 (pr aQ (fn 7 (pr V3 aQ)))) (.int 2))))))))) (fn 8 (pr (fn 6 (pr V0 (fn 7 (pr V3 aQ)))) (.int 2)))
abbrev V84:E:=pr (fn 3 (pr (fn 18 (pr V1 (fn 8 (pr V0 (.int 2))))) (fn 4 (pr V1 (pr (fn 8 (pr aQ (.int 2))) (fn 8 (pr (fn 6 (pr aQ (fn 7 (pr V3 aQ)))) (.int 2)))))))) zX
abbrev V85:E:=fn 186 V84
abbrev cS:E:=var 11
abbrev co:E:=var 10
abbrev eM:E:=var 5
abbrev PS:E:=cmp .eql cS (fn 175 (pr co (pr aQ eM)))
abbrev V90:E:=cmp .lss cS (.int 0)
abbrev V91:E:=cmp .lss eM (.int 0)
abbrev YQ:E:=.not V91
abbrev xO:E:=.not V90
abbrev rx:E:=var 14
abbrev V95:E:=cmp .eql rx (fn 7 (pr eM (.int 1)))
abbrev Ks:=[V95]
abbrev V97:E:=cmp .lss (var 6) eM
abbrev VD:E:=.not V97
abbrev V99:E:=cmp .lss (.int 30) eM
abbrev Qm:E:=.not V99
abbrev Qp:E:=cmp .eql (fn 0 aQ) (fn 8 (pr eM (.int 2)))
abbrev aJ8:E:=pr (var 13) (pr aQ cS)
abbrev aTX:E:=fn 186 aJ8
abbrev asu:=[aTX]
abbrev apr:=xO::asu
abbrev aWA:=PS::apr
abbrev aiJ:=Qp::aWA
abbrev Zi:E:=pr (fn 10 (.int 0)) (.int 0)
abbrev Io:E:=pr aQ Zi
abbrev Ag:E:=.not (cmp .lss (.int 30) (fn 6 (pr eM V2)))
abbrev ed:E:=var 7
abbrev ZX:E:=cmp .eql (fn 0 ed) V2
abbrev aRS:E:=cmp .lss V2 (.int 1)
abbrev ayj:E:=.not aRS
abbrev anv:=[ayj]
abbrev auU:E:=cmp .lss (.int 2147483648) (fn 6 (pr V2 (.int 1)))
abbrev alP:E:=.not auU
abbrev EG:E:=pr aQ (pr ed (.int 0))
abbrev tl:E:=var 12
abbrev M0:E:=cmp .eql tl (fn 175 (pr (.int (-1)) (pr aQ eM)))
abbrev abt:E:=cmp .lss tl (.int 0)
abbrev ag5:E:=cmp .eql (fn 175 (pr (.int (-1)) (pr aQ eM))) (.int (-1))
abbrev OY:E:=.not abt
abbrev ql:E:=var 15
abbrev av5:E:=cmp .eql ql (fn 7 (pr eM (.int 1)))
abbrev Hb:=[av5]
abbrev aJK:E:=pr rx (pr aQ tl)
abbrev avc:E:=fn 186 aJK
abbrev aOY:=[avc]
abbrev aJX:=OY::aOY
abbrev aBc:=M0::aJX
abbrev WG:=Qp::aBc
abbrev Th:E:=pr V0 (.int 0)
abbrev PP:E:=pr aU Th
abbrev OV:E:=pr V3 PP
abbrev dE:E:=fn 188 (pr V1 OV)
abbrev nL:=[xO,dE]
abbrev IG:=[dE,xO]
abbrev AQ:E:=cmp .eql co (.int 0)
abbrev AE:E:=cmp .eql co (.int 1)
abbrev AH:E:=cmp .eql co (.int 2)
abbrev aLB:E:=cmp .lss (.int 3) co
abbrev Tp:E:=.not aLB
abbrev aB5:E:=cmp .lss co (.int 0)
abbrev PB:E:=.not aB5
abbrev aww:=[PB,dE]
abbrev TV:=Tp::aww
abbrev aDN:=xO::TV
abbrev avF:List E:=(.not AH)::aDN
abbrev aQi:List E:=(.not AE)::avF
abbrev ahv:List E:=(.not AQ)::aQi
abbrev rL:E:=pr V1 (pr V3 (pr aU (pr V0 Io)))
abbrev sZ:E:=.not (cmp .lss (.int 20) cS)
abbrev RR:E:=pr co (.int 0)
abbrev amH:E:=pr V0 RR
abbrev abx:E:=pr aU amH
abbrev jj:E:=var 34
abbrev ja:E:=cmp .lss jj cS
abbrev oA:E:=var 28
abbrev Al:E:=var 29
abbrev Mg:E:=cmp .eql (fn 175 (pr co (pr oA Al))) (.int (-1))
abbrev qz:E:=var 24
abbrev oW:E:=var 25
abbrev qd:E:=var 26
abbrev pF:E:=var 27
abbrev aA9:E:=pr qd (pr pF RR)
abbrev av3:E:=pr oW aA9
abbrev aLR:E:=pr qz av3
abbrev aee:E:=fn 185 aLR
abbrev s7:E:=.imp ja aee
abbrev Cj:E:=.not (cmp .lss jj (.int 0))
abbrev akO:E:=cmp .eql (fn 0 oA) (fn 8 (pr Al (.int 2)))
abbrev aKa:E:=pr jj rL
abbrev aik:E:=pr co aKa
abbrev aQF:E:=pr (fn 10 (.int 0)) aik
abbrev azS:E:=pr oA aQF
abbrev aAF:E:=pr pF azS
abbrev aAc:E:=pr qd aAF
abbrev avI:E:=pr oW aAc
abbrev aNn:E:=pr qz avI
abbrev auf:E:=fn 170 aNn
abbrev aer:=[auf]
abbrev awS:=PB::aer
abbrev abg:=Tp::awS
abbrev EB:E:=pr co (pr cS rL)
abbrev OU:=[Cj,sZ]
abbrev apy:E:=cmp .lss cS jj
abbrev Ow:E:=.not apy
abbrev C8:E:=var 31
abbrev Ql:E:=fn 170 (pr qz (pr oW (pr qd (pr pF (pr oA (pr C8 aik))))))
abbrev aCQ:=[PB]
abbrev ahE:=Tp::aCQ
abbrev ath:=akO::ahE
abbrev WB:=Cj::ath
abbrev ZM:=[Ow]
abbrev aTR:=Ow::OU
abbrev acE:=ja::aTR
abbrev H9:E:=var 40
abbrev Em:E:=var 43
abbrev aLH:E:=pr co (pr (.ar .add .i64 jj (.int 1)) rL)
abbrev aTS:E:=pr Em aLH
abbrev aWK:E:=pr H9 aTS
abbrev aye:E:=pr pF aWK
abbrev aCG:E:=pr qd aye
abbrev aYd:E:=pr oW aCG
abbrev aVE:E:=pr qz aYd
abbrev amh:E:=fn 170 aVE
abbrev awH:E:=pr oA (pr C8 (.int 0))
abbrev aAs:E:=pr co awH
abbrev aYv:E:=pr Em aAs
abbrev apG:E:=pr H9 aYv
abbrev aaA:E:=fn 174 apG
abbrev axj:=sZ::ahE
abbrev VK:=Cj::axj
abbrev rO:E:=pr V1 (pr V3 (pr aU (pr V0 EG)))
abbrev Rg:E:=fn 170 (pr qz (pr oW (pr qd (pr pF (pr oA (pr C8 (pr co (pr jj rO))))))))
abbrev aky:E:=pr co (pr cS rO)
abbrev aYl:E:=cmp .eql V0 (.int 0)
abbrev LO:=[aYl]
abbrev aQZ:=I1::LO
abbrev Km:=dE::aQZ
abbrev Tq:E:=pr (.int 4) (pr (.int 1) rL)
abbrev vr:E:=fn 171 Tq
abbrev uN:E:=fn 170 (pr V1 (pr V3 (pr aU (pr V0 (pr ql (pr (var 18) Tq))))))
abbrev oJ:E:=cmp .lss V1 V3
abbrev yc:E:=cmp .lss V3 aU
abbrev aTK:=[oJ,yc,I1]
abbrev M3:=dE::aTK
abbrev JP:E:=fn 188 (pr V1 (pr V3 (pr aU (pr (.ar .sub .i64 V0 (.int 1)) (.int 0)))))
abbrev aKL:E:=cmp .eql aU (.int 0)
abbrev WT:=[aKL]
abbrev arN:=yc::WT
abbrev Im:=dE::arN
abbrev aEN:E:=pr V3 (pr (.ar .sub .i64 aU (.int 1)) Th)
abbrev aIh:E:=pr V1 aEN
abbrev ad4:E:=fn 188 aIh
abbrev arE:=P3::LO
abbrev JD:=dE::arE
abbrev aiw:E:=.not yc
abbrev aqJ:=[aiw,P3]
abbrev aEf:=oJ::aqJ
abbrev Nw:=dE::aEf
abbrev ayS:E:=cmp .eql V3 (.int 0)
abbrev auN:=[ayS]
abbrev apR:=oJ::auN
abbrev FF:=dE::apR
abbrev pX:E:=.not oJ
abbrev yk:E:=cmp .lss V1 aU
abbrev aEP:=[pX,yk,I1]
abbrev Ss:=dE::aEP
abbrev aRe:=yk::WT
abbrev Ka:=dE::aRe
abbrev MK:E:=cmp .lss V1 V0
abbrev aqe:=MK::LO
abbrev Fu:=dE::aqe
abbrev Ce:E:=.not yk
abbrev aVq:=[pX,Ce,MK]
abbrev P6:=dE::aVq
abbrev Jy:E:=.not MK
abbrev A9:E:=cmp .eql V1 (.int 0)
abbrev aYx:=[pX,Ce,Jy,A9,ag5]
abbrev asx:=Qp::aYx
abbrev alT:=dE::asx
abbrev aOS:E:=pr (fn 10 (.int 0)) Tq
abbrev afP:E:=pr aQ aOS
abbrev Gu:E:=fn 170 (pr V1 (pr V3 (pr aU (pr (.ar .sub .i64 V0 (.int 1)) afP))))
abbrev acx:E:=pr V0 afP
abbrev aOv:E:=pr (.ar .sub .i64 aU (.int 1)) acx
abbrev aAf:E:=pr V3 aOv
abbrev aIN:E:=pr V1 aAf
abbrev aiv:E:=fn 170 aIN
abbrev axe:=[aiw,ML]
abbrev awX:=oJ::axe
abbrev XI:=dE::awX
abbrev agb:E:=pr aU acx
abbrev aJR:=[pX,Ce,Jy,(.not A9)]
abbrev aaQ:=dE::aJR
abbrev Mn:E:=pr (.int 4) (pr (.int 1) rO)
abbrev tL:E:=fn 171 Mn
abbrev uK:E:=fn 170 (pr V1 (pr V3 (pr aU (pr V0 (pr ql (pr (var 18) Mn))))))
abbrev apS:E:=pr ed Mn
abbrev ab7:E:=pr aQ apS
abbrev Hm:E:=fn 170 (pr V1 (pr V3 (pr aU (pr (.ar .sub .i64 V0 (.int 1)) ab7))))
abbrev ajY:E:=pr V0 ab7
abbrev aJa:E:=pr (.ar .sub .i64 aU (.int 1)) ajY
abbrev aWF:E:=pr V3 aJa
abbrev aOb:E:=pr V1 aWF
abbrev UW:E:=fn 170 aOb
abbrev adc:E:=pr aU ajY
def auX:=fa ((cmp .eql (fn 175 (pr V0 (pr V1 (.int 0)))) (.int (-1))))<|fun F=>by
 rfl
def aOc:=fb (V4::V5::V6::XR) (cmp .eql V2 (fn 175 (pr V0 (pr V1 V3))))<|aB fun F p0 p1 p2 p3 p4=>by
 have:=@ZT F V1 V0 V3 V2
 try simp only[aa]at *
 grind
def aN3:=fb V13 (.not (cmp .lss (.ar .add .i64 V2 (.int 1)) (.int 0)))<|af fun F p0 p1 p2=>by
 try simp only[aa,ab]at *
 obtain⟨a7,ea7,qa7⟩:=ae ((E.I F V2)+(1))
 omega
def axL:=fb ((.not V4)::V6::V17) (cmp .eql (fn 175 (pr V0 (pr V1 V3))) (.int (-1)))<|af fun F p0 p1 p2=>by
 have:=@anb F V1 V0 V3 V2
 try simp only[aa]at *
 grind
def awC:=fb V19 (.not (cmp .lss V3 (.ar .add .i64 V2 (.int 1))))<|aj fun F p0 p1 p2 p3=>by
 try simp only[aa,ab]at *
 obtain⟨a7,ea7,qa7⟩:=ae ((E.I F V2)+(1))
 omega
def aJb:=fb ([V4,(.not V5),V6,V8,mZ,oe,V9]) (cmp .eql (fn 175 (pr V0 (pr V1 (.ar .add .i64 V2 (.int 1))))) (.int (-1)))<|bb fun F p0 p1 p2 p3 p4 p5 p6=>by
 have:=@am F V2 (.int 1)
 have:=@aVK F V1 V0 V3 (.ar .add .i64 V2 (.int 1)) V2
 try simp only[aa]at *
 grind
def aUZ:=fb V13 (cmp .lss (fn 7 (pr V3 (.ar .add .i64 V2 (.int 1)))) (fn 7 (pr V3 V2)))<|af fun F p0 p1 p2=>by
 try simp only[aa,ab]at *
 obtain⟨a7,ea7,qa7⟩:=ae ((E.I F V2)+(1))
 omega
def aDO:=fb V19 (.not (cmp .lss (fn 7 (pr V3 (.ar .add .i64 V2 (.int 1)))) (.int 0)))<|aj fun F p0 p1 p2 p3=>by
 try simp only[aa,ab]at *
 obtain⟨a7,ea7,qa7⟩:=ae ((E.I F V2)+(1))
 omega
def p47:List Fa:=[auX,aOc,aN3,axL,awC,aJb,aUZ,aDO]
theorem aEd:aN Try.prog (aZ (adh false)):=sc p47 (als false) akf ([]) (by kernel_rfl) (by kernel_rfl)
def akt:Nl:=nc aEd akf
def azn:=fa ((cmp .eql (fn 175 (pr (.int (-1)) (pr V1 (.int 0)))) (.int (-1))))<|fun F=>by
 rfl
def aIi:=fb (V4::W8::XR) (cmp .eql V2 (fn 175 (pr (.int (-1)) (pr V1 V3))))<|aj fun F p0 p1 p2 p3=>by
 have:=@ZT F V1 (.int (-1)) V3 V2
 try simp only[aa]at *
 grind
def aMk:=fb ((.not V4)::W8::V17) (cmp .eql (fn 175 (pr (.int (-1)) (pr V1 V3))) (.int (-1)))<|af fun F p0 p1 p2=>by
 have:=@anb F V1 (.int (-1)) V3 V2
 try simp only[aa]at *
 grind
def p48:List Fa:=[azn,aIi,aMk]
theorem ayn:aN Try.prog (aZ (adh true)):=sc p48 (als true) akt ([]) (by kernel_rfl) (by kernel_rfl)
def afp:Nl:=nc ayn akt
def aLd:=fb XY (.not (cmp .lss aU (fn 6 (pr V0 (fn 7 (pr V3 aQ))))))<|be fun F p0 p1 p2 p3 p4 p5=>by
 try simp only[aa,ab]at *
 obtain⟨a5,ea5,qa5⟩:=ae ((E.I F V0)+(1))
 omega
def aGL:=fb pZ (cmp .lss (fn 6 (pr V0 (fn 7 (pr V3 aQ)))) V3)<|aB fun F p0 p1 p2 p3 p4=>by
 try simp only[aa,ab]at *
 obtain⟨a5,ea5,qa5⟩:=ae ((E.I F V0)+(1))
 omega
def auq:=fb pZ (.not (cmp .lss aQ (.int 0)))<|aB fun F p0 p1 p2 p3 p4=>by
 try simp only[aa,ab]at *
 obtain⟨a5,ea5,qa5⟩:=ae ((E.I F V0)+(1))
 omega
def aOI:=fb pZ (.not (cmp .lss V3 aQ))<|aB fun F p0 p1 p2 p3 p4=>by
 try simp only[aa,ab]at *
 obtain⟨a5,ea5,qa5⟩:=ae ((E.I F V0)+(1))
 omega
def aEm:=fb pZ (.not (cmp .lss aQ V0))<|aB fun F p0 p1 p2 p3 p4=>by
 try simp only[aa,ab]at *
 obtain⟨a5,ea5,qa5⟩:=ae ((E.I F V0)+(1))
 omega
def ayv:=fb eY V38<|ak fun F p0 p1=>by
 try simp only[aa]at *
 omega
def azs:=fb eY vM<|ak fun F p0 p1=>by
 try simp only[aa]at *
 omega
def aNd:=fb ([mG,jm,mZ,oe,Nq,(cmp .eql V0 aQ)]) V38<|be fun F p0 p1 p2 p3 p4 p5=>by
 try simp only[aa,ab]at *
 obtain⟨a5,ea5,qa5⟩:=ae ((E.I F V0)+(1))
 omega
def aTV:=fb V45 vM<|aj fun F p0 p1 p2 p3=>by
 try simp only[aa]at *
 omega
def aKz:=fb ([jm,zN]) vM<|ak fun F p0 p1=>by
 try simp only[aa]at *
 omega
def aAT:=fb eY V47<|ak fun F p0 p1=>by
 try simp only[aa]at *
 omega
def ap1:=fb eY ML<|ak fun F p0 p1=>by
 try simp only[aa]at *
 omega
def aYb:=fb ([mG,jm,mZ,oe,(cmp .eql V0 aQ)]) V47<|aB fun F p0 p1 p2 p3 p4=>by
 try simp only[aa,ab]at *
 obtain⟨a5,ea5,qa5⟩:=ae ((E.I F V0)+(1))
 omega
def aJ2:=fb ([jm]) ML<|aq fun F p0=>by
 try simp only[aa]at *
 omega
def aAP:=fb eY OQ<|ak fun F p0 p1=>by
 try simp only[aa]at *
 omega
def aWp:=fb eY V53<|ak fun F p0 p1=>by
 try simp only[aa]at *
 omega
def ass:=fb (mG::V54) OQ<|aj fun F p0 p1 p2 p3=>by
 try simp only[aa]at *
 have:=@cf F V1
 omega
def aAD:=fb pZ V53<|aB fun F p0 p1 p2 p3 p4=>by
 try simp only[aa,ab]at *
 obtain⟨a5,ea5,qa5⟩:=ae ((E.I F V0)+(1))
 omega
def aU3:=fb eY V56<|ak fun F p0 p1=>by
 try simp only[aa]at *
 omega
def avd:=fb eY V58<|ak fun F p0 p1=>by
 try simp only[aa]at *
 omega
def aVY:=fb (jm::V35) V56<|af fun F p0 p1 p2=>by
 try simp only[aa]at *
 omega
def apc:=fa (V58)<|fun F=>by
 try simp only[aa]at *
 omega
def ayZ:=fb ([V9,zN]) OQ<|ak fun F p0 p1=>by
 try simp only[aa]at *
 have:=@cf F V1
 omega
def aPI:=fb eY V60<|ak fun F p0 p1=>by
 try simp only[aa]at *
 omega
def avs:=fb pZ V60<|aB fun F p0 p1 p2 p3 p4=>by
 try simp only[aa,ab]at *
 obtain⟨a5,ea5,qa5⟩:=ae ((E.I F V0)+(1))
 omega
def aul:=fb eY V62<|ak fun F p0 p1=>by
 try simp only[aa]at *
 omega
def aJV:=fb eY V63<|ak fun F p0 p1=>by
 try simp only[aa]at *
 omega
def aG6:=fb ([mG,jm,mZ,V9]) V62<|aj fun F p0 p1 p2 p3=>by
 try simp only[aa,ab]at *
 obtain⟨a5,ea5,qa5⟩:=ae ((E.I F V0)+(1))
 omega
def at2:=fb V69 V63<|bb fun F p0 p1 p2 p3 p4 p5 p6=>by
 try simp only[aa,ab]at *
 obtain⟨a5,ea5,qa5⟩:=ae ((E.I F V0)+(1))
 omega
def arx:=fb eY V71<|ak fun F p0 p1=>by
 try simp only[aa]at *
 omega
def aC0:=fb eY (cmp .lss V0 aU)<|ak fun F p0 p1=>by
 try simp only[aa]at *
 omega
def aLF:=fb pZ V71<|aB fun F p0 p1 p2 p3 p4=>by
 try simp only[aa,ab]at *
 obtain⟨a5,ea5,qa5⟩:=ae ((E.I F V0)+(1))
 omega
def aO5:=fb V45 (cmp .lss V0 aU)<|aj fun F p0 p1 p2 p3=>by
 try simp only[aa]at *
 omega
def aOa:=fb eY V72<|ak fun F p0 p1=>by
 try simp only[aa]at *
 omega
def aS5:=fb eY V73<|ak fun F p0 p1=>by
 try simp only[aa]at *
 omega
def ay5:=fb pZ V72<|aB fun F p0 p1 p2 p3 p4=>by
 try simp only[aa,ab]at *
 obtain⟨a5,ea5,qa5⟩:=ae ((E.I F V0)+(1))
 omega
def aDz:=fb V69 V73<|bb fun F p0 p1 p2 p3 p4 p5 p6=>by
 try simp only[aa,ab]at *
 obtain⟨a5,ea5,qa5⟩:=ae ((E.I F V0)+(1))
 omega
def azj:=fb eY W1<|ak fun F p0 p1=>by
 try simp only[aa]at *
 omega
def aD7:=fb eY V75<|ak fun F p0 p1=>by
 try simp only[aa]at *
 omega
def aBs:=fb XY W1<|be fun F p0 p1 p2 p3 p4 p5=>by
 try simp only[aa,ab]at *
 obtain⟨a5,ea5,qa5⟩:=ae ((E.I F V0)+(1))
 omega
def aFf:=fb V79 V75<|bb fun F p0 p1 p2 p3 p4 p5 p6=>by
 have:=@Oc F (fn 8 (pr V0 (.int 2))) V1
 have:=@Oc F (fn 8 (pr (.int 0) (.int 2))) V1
 try simp only[aa]at *
 omega
def azb:=fb eY V80<|ak fun F p0 p1=>by
 try simp only[aa]at *
 omega
def aGD:=fb eY XS<|ak fun F p0 p1=>by
 try simp only[aa]at *
 omega
def aEq:=fb pZ V80<|aB fun F p0 p1 p2 p3 p4=>by
 try simp only[aa,ab]at *
 obtain⟨a5,ea5,qa5⟩:=ae ((E.I F V0)+(1))
 omega
def aou:=fb V79 XS<|bb fun F p0 p1 p2 p3 p4 p5 p6=>by
 have hr0:(0<=E.I F _)->(E.I F _=E.I F _*2)->(E.I F _<=0)->(E.I F _<=E.I F _*2+2)->E.B F (fn _ (pr (fn 3 (pr (fn 18 (pr _ (fn 8 (pr V0 (.int 2))))) (fn 18 (pr _ (fn 8 (pr (.int 0) (.int 2))))))) zX))=true:=fun s0 s1 s2 s3=>aDr s0 s1 s2 s3
 try simp only[aa,ab]at *
 obtain⟨a5,ea5,qa5⟩:=ae ((E.I F V0)+(1))
 grind
def aEh:=fb eY Zq<|ak fun F p0 p1=>by
 try simp only[aa]at *
 omega
def aNJ:=fb ([mG,jm,mZ,oe,V9,(.not (cmp .eql V3 V0))]) Zq<|be fun F p0 p1 p2 p3 p4 p5=>by
 have:=@Oc F (fn 8 (pr V0 (.int 2))) V1
 have:=@uQ F V1 (fn 8 (pr aQ (.int 2))) (fn 8 (pr (fn 6 (pr aQ (fn 7 (pr V3 aQ)))) (.int 2)))
 try simp only[aa,ab]at *
 obtain⟨a7,ea7,qa7⟩:=ae ((E.I F V0)+(1))
 omega
def aRE:=fb eY V85<|ak fun F p0 p1=>by
 try simp only[aa]at *
 omega
def awd:=fb ([mG,jm,mZ,oe,V9]) V85<|aB fun F p0 p1 p2 p3 p4=>by
 have hr0:(0<=E.I F _)->(E.I F _=E.I F _*2)->(E.I F _=E.I F _*2+2)->(E.I F _=E.I F _)->E.B F (fn _ (pr (fn 3 (pr (fn 18 (pr _ (fn 8 (pr V0 (.int 2))))) (fn 4 (pr _ (pr (fn 8 (pr aQ (.int 2))) (fn 8 (pr (fn 6 (pr aQ (fn 7 (pr V3 aQ)))) (.int 2)))))))) zX))=true:=fun s0 s1 s2 s3=>aI4 s0 s1 s2 s3
 try simp only[aa,ab]at *
 obtain⟨a5,ea5,qa5⟩:=ae ((E.I F V0)+(1))
 grind
def p49:List Fa:=[fK,aLd,aGL,auq,aOI,aEm,ayv,azs,aNd,aTV,aKz,aAT,ap1,aYb,aJ2,aAP,aWp,ass,aAD,aU3,avd,aVY,apc,ayZ,aPI,avs,aul,aJV,aG6,at2,arx,aC0,aLF,aO5,aOa,aS5,ay5,aDz,azj,aD7,aBs,aFf,azb,aGD,aEq,aou,aEh,aNJ,aRE,awd]
theorem au5:aN Try.prog (aZ (aUD)):=sc p49 ([]) afp ([]) (by kernel_rfl) (by kernel_rfl)
def acr:Nl:=nc au5 afp
def aao:=fb ([PS,V90]) (cmp .eql (fn 175 (pr co (pr aQ eM))) (.int (-1)))<|ak fun F p0 p1=>by
 have:=@ZN F aQ co eM
 try simp only[aa]at *
 grind
def abC:=fb (YQ::(cmp .lss cS eM)::PS::xO::Ks) (.not (cmp .lss rx (.int 0)))<|aB fun F p0 p1 p2 p3 p4=>by
 try simp only[aa]at *
 grind
def ako:=fb (VD::Ks) (.not (cmp .lss (var 6) rx))<|ak fun F p0 p1=>by
 try simp only[aa]at *
 grind
def aph:=fb (Qm::Ks) (.not (cmp .lss (.int 30) (fn 6 (pr rx (.int 1)))))<|ak fun F p0 p1=>by
 try simp only[aa]at *
 grind
def aJ7:=fb aiJ (fn 174 (pr (var 13) (pr (fn 23 (pr (fn 1 (pr aQ (fn 6 (pr (fn 8 (pr cS (.int 2))) (.int 0))))) (fn 10 (.int 0)))) (pr co Io))))<|aj fun F p0 p1 p2 p3=>by
 have hr2:(E.I F _=E.I F _)->(0<=E.I F _)->(E.I F _=E.I F eM*2)->E.B F (fn _ (pr _ (pr _ (pr co _))))=true:=fun s0 s1 s2=>ags p3 s0 s1 s2
 try simp only[aa]at *
 grind
def p50:List Fa:=[aao,abC,ako,aph,aJ7]
theorem awZ:aN Try.prog (aZ (FG false false)):=sc p50 ([]) acr ([]) (by kernel_rfl) (by kernel_rfl)
def VV:Nl:=nc awZ acr
def aca:=fb (Ag::ZX::anv) Qm<|af fun F p0 p1 p2=>by
 try simp only[aa]at *
 omega
def adm:=fb ((.not (cmp .lss (var 9) V2))::anv) (.not (cmp .lss (var 9) (.int 0)))<|ak fun F p0 p1=>by
 try simp only[aa]at *
 grind
def asP:=fb ([Ag,(cmp .lss cS eM),xO]) alP<|af fun F p0 p1 p2=>by
 try simp only[aa]at *
 grind
def ahj:=fb ([ZX]) (cmp .eql (fn 6 (pr (fn 0 ed) (.int 1))) (fn 6 (pr V2 (.int 1))))<|aq fun F p0=>by
 try simp only[aa]at *
 grind
def aT2:=fb (Ag::Ks) (.not (cmp .lss (.int 30) (fn 6 (pr rx (fn 6 (pr V2 (.int 1)))))))<|ak fun F p0 p1=>by
 try simp only[aa]at *
 grind
def aUi:=fb aiJ (fn 174 (pr (var 13) (pr (fn 3 (pr ed (fn 23 (pr (fn 1 (pr aQ (fn 6 (pr (fn 8 (pr cS (.int 2))) (.int 0))))) (fn 10 (.int 0)))))) (pr co EG))))<|aj fun F p0 p1 p2 p3=>by
 have hr2:(E.I F _=E.I F _)->(0<=E.I F _)->(E.I F _=E.I F eM*2)->E.B F (fn _ (pr _ (pr _ (pr co (pr _ (pr ed _))))))=true:=fun s0 s1 s2=>aju p3 s0 s1 s2
 try simp only[aa]at *
 grind
def p51:List Fa:=[aca,aao,adm,asP,abC,ako,ahj,aT2,aUi]
theorem aQX:aN Try.prog (aZ (FG true false)):=sc p51 ([]) VV ([]) (by kernel_rfl) (by kernel_rfl)
def VB:Nl:=nc aQX VV
def am8:=fb ([M0,abt]) ag5<|ak fun F p0 p1=>by
 have:=@ZN F aQ (.int (-1)) eM
 try simp only[aa]at *
 grind
def aeT:=fb (YQ::(cmp .lss tl eM)::M0::OY::Hb) (.not (cmp .lss ql (.int 0)))<|aB fun F p0 p1 p2 p3 p4=>by
 try simp only[aa]at *
 grind
def aks:=fb (VD::Hb) (.not (cmp .lss (var 6) ql))<|ak fun F p0 p1=>by
 try simp only[aa]at *
 grind
def avL:=fb (Qm::Hb) (.not (cmp .lss (.int 30) (fn 6 (pr ql (.int 1)))))<|ak fun F p0 p1=>by
 try simp only[aa]at *
 grind
def aqP:=fb WG (fn 174 (pr rx (pr (fn 23 (pr (fn 1 (pr aQ (fn 6 (pr (fn 8 (pr tl (.int 2))) (.int 0))))) (fn 10 (.int 0)))) (pr (.int (-1)) Io))))<|aj fun F p0 p1 p2 p3=>by
 have hr2:(E.I F _=E.I F _)->(0<=E.I F _)->(E.I F _=E.I F eM*2)->E.B F (fn _ (pr _ (pr _ (pr (.int (-1)) _))))=true:=fun s0 s1 s2=>ags p3 s0 s1 s2
 try simp only[aa]at *
 grind
def p52:List Fa:=[am8,aeT,aks,avL,aqP]
theorem asU:aN Try.prog (aZ (FG false true)):=sc p52 ([]) VB ([]) (by kernel_rfl) (by kernel_rfl)
def abU:Nl:=nc asU VB
def aU9:=fb ([Ag,(cmp .lss tl eM),OY]) alP<|af fun F p0 p1 p2=>by
 try simp only[aa]at *
 grind
def aPR:=fb (Ag::Hb) (.not (cmp .lss (.int 30) (fn 6 (pr ql (fn 6 (pr V2 (.int 1)))))))<|ak fun F p0 p1=>by
 try simp only[aa]at *
 grind
def aO4:=fb WG (fn 174 (pr rx (pr (fn 3 (pr ed (fn 23 (pr (fn 1 (pr aQ (fn 6 (pr (fn 8 (pr tl (.int 2))) (.int 0))))) (fn 10 (.int 0)))))) (pr (.int (-1)) EG))))<|aj fun F p0 p1 p2 p3=>by
 have hr2:(E.I F _=E.I F _)->(0<=E.I F _)->(E.I F _=E.I F eM*2)->E.B F (fn _ (pr _ (pr _ (pr (.int (-1)) (pr _ (pr ed _))))))=true:=fun s0 s1 s2=>aju p3 s0 s1 s2
 try simp only[aa]at *
 grind
def p53:List Fa:=[aca,am8,adm,aU9,aeT,aks,ahj,aPR,aO4]
theorem aqO:aN Try.prog (aZ (FG true true)):=sc p53 ([]) abU ([]) (by kernel_rfl) (by kernel_rfl)
def ahG:Nl:=nc aqO abU
def ajA:=fb nL (fn 188 (pr V1 (pr V3 (pr aU (pr (.ar .sub .i64 V0 (.mn cS V0)) (.int 0))))))<|ak fun F p0 p1=>by
 have:=@aK F V0 (.mn cS V0)
 have:=(@ah F _ _ _ _).mp p1
 rw[show E.B F _=true↔_ from iff_of_eq (@ah F _ _ _ _)]
 try simp only[aa]at *
 grind
def abX:=fb nL (fn 188 (pr V1 (pr V3 (pr (.ar .sub .i64 aU (.mn cS aU)) Th))))<|ak fun F p0 p1=>by
 have:=@aK F aU (.mn cS aU)
 have:=(@ah F _ _ _ _).mp p1
 rw[show E.B F _=true↔_ from iff_of_eq (@ah F _ _ _ _)]
 try simp only[aa]at *
 grind
def aku:=fb nL (fn 188 (pr V1 (pr (.ar .sub .i64 V3 (.mn cS V3)) PP)))<|ak fun F p0 p1=>by
 have:=@aK F V3 (.mn cS V3)
 have:=(@ah F _ _ _ _).mp p1
 rw[show E.B F _=true↔_ from iff_of_eq (@ah F _ _ _ _)]
 try simp only[aa]at *
 grind
def acv:=fb nL (fn 188 (pr (.ar .sub .i64 V1 (.mn cS V1)) OV))<|ak fun F p0 p1=>by
 have:=@aK F V1 (.mn cS V1)
 have:=(@ah F _ _ _ _).mp p1
 rw[show E.B F _=true↔_ from iff_of_eq (@ah F _ _ _ _)]
 try simp only[aa]at *
 grind
def akF:=fb IG (.not (cmp .lss (.mn cS V0) (.int 0)))<|ak fun F p0 p1=>by
 have:=(@ah F _ _ _ _).mp p0
 try simp only[aa]at *
 grind
def VT:=fb IG (.not (cmp .lss (.mn cS aU) (.int 0)))<|ak fun F p0 p1=>by
 have:=(@ah F _ _ _ _).mp p0
 try simp only[aa]at *
 grind
def ake:=fb IG (.not (cmp .lss (.mn cS V3) (.int 0)))<|ak fun F p0 p1=>by
 have:=(@ah F _ _ _ _).mp p0
 try simp only[aa]at *
 grind
def UJ:=fb IG (.not (cmp .lss (.mn cS V1) (.int 0)))<|ak fun F p0 p1=>by
 have:=(@ah F _ _ _ _).mp p0
 try simp only[aa]at *
 grind
def acF:=fa ((.not (cmp .lss cS (.mn cS V0))))<|fun F=>by
 try simp only[aa]at *
 grind
def ahz:=fa ((.not (cmp .lss cS (.mn cS aU))))<|fun F=>by
 try simp only[aa]at *
 grind
def Zv:=fa ((.not (cmp .lss cS (.mn cS V3))))<|fun F=>by
 try simp only[aa]at *
 grind
def aby:=fa ((.not (cmp .lss cS (.mn cS V1))))<|fun F=>by
 try simp only[aa]at *
 grind
def aJe:=fb ahv (fn 170 (pr V1 (pr V3 (pr aU (pr (.ar .sub .i64 V0 (.mn cS V0)) (pr aQ (pr (fn 10 (.int 0)) (pr co (pr (.mn cS V0) rL)))))))))<|bb fun F p0 p1 p2 p3 p4 p5 p6=>by
 have:=@aK F V0 (.mn cS V0)
 have:=(@ah F _ _ _ _).mp p6
 have hr2:(E.I F _=3)->(E.I F _=E.I F _-E.I F _)->(0<=E.I F _)->(E.I F _<=E.I F _)->E.B F (fn _ (pr _ (pr _ (pr _ (pr (.ar .sub .i64 V0 (.mn cS V0)) (pr _ (pr _ (pr co (pr (.mn cS V0) (pr V1 (pr V3 (pr aU (pr V0 (pr aQ (pr (fn 10 (.int 0)) _)))))))))))))))=true:=fun s0 s1 s2 s3=>agT s0 s1 s2 s3
 try simp only[aa]at *
 grind
def aNh:=fb (AH::nL) (fn 170 (pr V1 (pr V3 (pr (.ar .sub .i64 aU (.mn cS aU)) (pr V0 (pr aQ (pr (fn 10 (.int 0)) (pr co (pr (.mn cS aU) rL)))))))))<|af fun F p0 p1 p2=>by
 have:=@aK F aU (.mn cS aU)
 have:=(@ah F _ _ _ _).mp p2
 have hr2:(E.I F _=2)->(E.I F _=E.I F _-E.I F _)->(0<=E.I F _)->(E.I F _<=E.I F _)->E.B F (fn _ (pr _ (pr _ (pr (.ar .sub .i64 aU (.mn cS aU)) (pr _ (pr _ (pr _ (pr co (pr (.mn cS aU) (pr V1 (pr V3 (pr aU (pr V0 (pr aQ (pr (fn 10 (.int 0)) _)))))))))))))))=true:=fun s0 s1 s2 s3=>ahT s0 s1 s2 s3
 try simp only[aa]at *
 grind
def aw7:=fb (AE::nL) (fn 170 (pr V1 (pr (.ar .sub .i64 V3 (.mn cS V3)) (pr aU (pr V0 (pr aQ (pr (fn 10 (.int 0)) (pr co (pr (.mn cS V3) rL)))))))))<|af fun F p0 p1 p2=>by
 have:=@aK F V3 (.mn cS V3)
 have:=(@ah F _ _ _ _).mp p2
 have hr2:(E.I F _=1)->(E.I F _=E.I F _-E.I F _)->(0<=E.I F _)->(E.I F _<=E.I F _)->E.B F (fn _ (pr _ (pr (.ar .sub .i64 V3 (.mn cS V3)) (pr _ (pr _ (pr _ (pr _ (pr co (pr (.mn cS V3) (pr V1 (pr V3 (pr aU (pr V0 (pr aQ (pr (fn 10 (.int 0)) _)))))))))))))))=true:=fun s0 s1 s2 s3=>ajC s0 s1 s2 s3
 try simp only[aa]at *
 grind
def avX:=fb (AQ::nL) (fn 170 (pr (.ar .sub .i64 V1 (.mn cS V1)) (pr V3 (pr aU (pr V0 (pr aQ (pr (fn 10 (.int 0)) (pr co (pr (.mn cS V1) rL)))))))))<|af fun F p0 p1 p2=>by
 have:=@aK F V1 (.mn cS V1)
 have:=(@ah F _ _ _ _).mp p2
 have hr2:(E.I F _=0)->(E.I F _=E.I F _-E.I F _)->(0<=E.I F _)->(E.I F _<=E.I F _)->E.B F (fn _ (pr (.ar .sub .i64 V1 (.mn cS V1)) (pr _ (pr _ (pr _ (pr _ (pr _ (pr co (pr (.mn cS V1) (pr V1 (pr V3 (pr aU (pr V0 (pr aQ (pr (fn 10 (.int 0)) _)))))))))))))))=true:=fun s0 s1 s2 s3=>Yg s0 s1 s2 s3
 try simp only[aa]at *
 grind
def We:=fb ((.not AQ)::(.not AE)::(.not AH)::sZ::TV) (.imp (cmp .lss (.mn cS V0) cS) (fn 185 (pr V1 (pr V3 (pr aU (pr (.ar .sub .i64 V0 (.mn cS V0)) RR))))))<|bb fun F p0 p1 p2 p3 p4 p5 p6=>by
 have:=@aK F V0 (.mn cS V0)
 have hr5:=fun s0 s1=>@ane F V1 V3 aU (.ar .sub .i64 V0 (.mn cS V0)) co s0 s1
 try simp only[aa]at *
 grind
def ahX:=fb ([AH,sZ,dE]) (.imp (cmp .lss (.mn cS aU) cS) (fn 185 (pr V1 (pr V3 (pr (.ar .sub .i64 aU (.mn cS aU)) amH)))))<|af fun F p0 p1 p2=>by
 have:=@aK F aU (.mn cS aU)
 have hr4:=fun s0 s1=>@af8 F V1 V3 (.ar .sub .i64 aU (.mn cS aU)) V0 co s0 s1
 try simp only[aa]at *
 grind
def XZ:=fb ([AE,sZ,dE]) (.imp (cmp .lss (.mn cS V3) cS) (fn 185 (pr V1 (pr (.ar .sub .i64 V3 (.mn cS V3)) abx))))<|af fun F p0 p1 p2=>by
 have:=@aK F V3 (.mn cS V3)
 have hr3:=fun s0 s1=>@aem F V1 (.ar .sub .i64 V3 (.mn cS V3)) aU V0 co s0 s1
 try simp only[aa]at *
 grind
def aaF:=fb ([AQ,sZ,dE]) (.imp (cmp .lss (.mn cS V1) cS) (fn 185 (pr (.ar .sub .i64 V1 (.mn cS V1)) (pr V3 abx))))<|af fun F p0 p1 p2=>by
 have:=@aK F V1 (.mn cS V1)
 have hr2:=fun s0 s1=>@aaU F (.ar .sub .i64 V1 (.mn cS V1)) V3 aU V0 co s0 s1
 try simp only[aa]at *
 grind
def aPm:=fb (ja::Mg::s7::Cj::akO::abg) (fn 171 EB)<|ba fun F p0 p1 p2 p3 p4 p5 p6 p7=>by
 have hr4:(E.I F _=-1)->(E.I F _=E.I F Al*2)->(E.B F _=true)->(0<=E.I F _)->(E.I F _<=3)->(0<=E.I F _)->(E.I F _<E.I F _)->E.B F (fn _ (pr _ (pr cS _)))=true:=fun s0 s1 s2 s3 s4 s5 s6=>Pk p7 s0 s1 s2 s3 s4 s5 s6
 try simp only[aa]at *
 grind
def Ty:=fb (ja::OU) (.not (cmp .lss (.ar .add .i64 jj (.int 1)) (.int 0)))<|af fun F p0 p1 p2=>by
 try simp only[aa,ab]at *
 obtain⟨a15,ea15,qa15⟩:=ae ((E.I F jj)+(1))
 omega
def aW6:=fb ((.not ja)::Ow::aer) (fn 170 (pr qz (pr oW (pr qd (pr pF (pr oA (pr (fn 10 (.int 0)) EB)))))))<|af fun F p0 p1 p2=>by
 have hr4:(E.I F _=E.I F _)->E.B F (fn _ (pr _ (pr _ (pr _ (pr _ (pr _ (pr _ (pr _ (pr cS _)))))))))=true:=fun s0=>fX p2 s0
 try simp only[aa]at *
 grind
def aCu:=fb (ja::Mg::s7::Ql::WB) (fn 171 EB)<|ba fun F p0 p1 p2 p3 p4 p5 p6 p7=>by
 have hr4:(E.I F _=-1)->(E.I F _=E.I F Al*2)->(E.B F _=true)->(0<=E.I F _)->(E.I F _<=3)->(0<=E.I F _)->(E.I F _<E.I F _)->E.B F (fn _ (pr _ (pr cS _)))=true:=fun s0 s1 s2 s3 s4 s5 s6=>Pk p3 s0 s1 s2 s3 s4 s5 s6
 try simp only[aa]at *
 grind
def aza:=fb ((.not ja)::Ql::ZM) (fn 170 (pr qz (pr oW (pr qd (pr pF (pr oA (pr C8 EB)))))))<|af fun F p0 p1 p2=>by
 have hr4:(E.I F _=E.I F _)->E.B F (fn _ (pr _ (pr _ (pr _ (pr _ (pr _ (pr _ (pr _ (pr cS _)))))))))=true:=fun s0=>fX p1 s0
 try simp only[aa]at *
 grind
def Vw:=fb acE (.not (cmp .lss cS (.ar .add .i64 jj (.int 1))))<|aj fun F p0 p1 p2 p3=>by
 try simp only[aa,ab]at *
 obtain⟨a15,ea15,qa15⟩:=ae ((E.I F jj)+(1))
 omega
def aVF:=fb (ja::(fn 174 (pr H9 (pr Em (pr co (pr oA Zi)))))::s7::Cj::sZ::abg) amh<|ba fun F p0 p1 p2 p3 p4 p5 p6 p7=>by
 have:=@am F jj (.int 1)
 have hr4:(E.B F _=true)->(0<=E.I F _)->(E.I F _<=3)->(0<=E.I F _)->(E.I F _=E.I F _+1)->E.B F (fn _ (pr _ (pr _ (pr _ (pr _ (pr _ (pr _ (pr _ (pr (.ar .add .i64 jj (.int 1)) _)))))))))=true:=fun s0 s1 s2 s3 s4=>R8 p7 p1 s0 s1 s2 s3 s4
 try simp only[aa]at *
 grind
def aTF:=fb (ja::aaA::s7::Ql::VK) amh<|ba fun F p0 p1 p2 p3 p4 p5 p6 p7=>by
 have:=@am F jj (.int 1)
 have hr4:(E.B F _=true)->(0<=E.I F _)->(E.I F _<=3)->(0<=E.I F _)->(E.I F _=E.I F _+1)->E.B F (fn _ (pr _ (pr _ (pr _ (pr _ (pr _ (pr _ (pr _ (pr (.ar .add .i64 jj (.int 1)) _)))))))))=true:=fun s0 s1 s2 s3 s4=>R8 p3 p1 s0 s1 s2 s3 s4
 try simp only[aa]at *
 grind
def ach:=fb ([ja,s7]) (.imp (cmp .lss (.ar .add .i64 jj (.int 1)) cS) aee)<|ak fun F p0 p1=>by
 simp_all
def ZZ:=fb (ja::OU) (cmp .lss (fn 7 (pr cS (.ar .add .i64 jj (.int 1)))) (fn 7 (pr cS jj)))<|af fun F p0 p1 p2=>by
 try simp only[aa,ab]at *
 obtain⟨a15,ea15,qa15⟩:=ae ((E.I F jj)+(1))
 omega
def alO:=fb acE (.not (cmp .lss (fn 7 (pr cS (.ar .add .i64 jj (.int 1)))) (.int 0)))<|aj fun F p0 p1 p2 p3=>by
 try simp only[aa,ab]at *
 obtain⟨a15,ea15,qa15⟩:=ae ((E.I F jj)+(1))
 omega
def p54:List Fa:=[ajA,abX,aku,acv,akF,VT,ake,UJ,acF,ahz,Zv,aby,aJe,aNh,aw7,avX,We,ahX,XZ,aaF,aPm,Ty,aW6,aCu,aza,Vw,aVF,aTF,ach,ZZ,alO]
theorem aAJ:aN Try.prog (aZ (TO false)):=sc p54 (Wv false) ahG ([]) (by kernel_rfl) (by kernel_rfl)
def agV:Nl:=nc aAJ ahG
def axb:=fb ahv (fn 170 (pr V1 (pr V3 (pr aU (pr (.ar .sub .i64 V0 (.mn cS V0)) (pr aQ (pr ed (pr co (pr (.mn cS V0) rO)))))))))<|bb fun F p0 p1 p2 p3 p4 p5 p6=>by
 have:=@aK F V0 (.mn cS V0)
 have:=(@ah F _ _ _ _).mp p6
 have hr2:(E.I F _=3)->(E.I F _=E.I F _-E.I F _)->(0<=E.I F _)->(E.I F _<=E.I F _)->E.B F (fn _ (pr _ (pr _ (pr _ (pr (.ar .sub .i64 V0 (.mn cS V0)) (pr _ (pr _ (pr co (pr (.mn cS V0) (pr V1 (pr V3 (pr aU (pr V0 (pr aQ (pr ed _)))))))))))))))=true:=fun s0 s1 s2 s3=>agT s0 s1 s2 s3
 try simp only[aa]at *
 grind
def ao6:=fb (AH::nL) (fn 170 (pr V1 (pr V3 (pr (.ar .sub .i64 aU (.mn cS aU)) (pr V0 (pr aQ (pr ed (pr co (pr (.mn cS aU) rO)))))))))<|af fun F p0 p1 p2=>by
 have:=@aK F aU (.mn cS aU)
 have:=(@ah F _ _ _ _).mp p2
 have hr2:(E.I F _=2)->(E.I F _=E.I F _-E.I F _)->(0<=E.I F _)->(E.I F _<=E.I F _)->E.B F (fn _ (pr _ (pr _ (pr (.ar .sub .i64 aU (.mn cS aU)) (pr _ (pr _ (pr _ (pr co (pr (.mn cS aU) (pr V1 (pr V3 (pr aU (pr V0 (pr aQ (pr ed _)))))))))))))))=true:=fun s0 s1 s2 s3=>ahT s0 s1 s2 s3
 try simp only[aa]at *
 grind
def aW9:=fb (AE::nL) (fn 170 (pr V1 (pr (.ar .sub .i64 V3 (.mn cS V3)) (pr aU (pr V0 (pr aQ (pr ed (pr co (pr (.mn cS V3) rO)))))))))<|af fun F p0 p1 p2=>by
 have:=@aK F V3 (.mn cS V3)
 have:=(@ah F _ _ _ _).mp p2
 have hr2:(E.I F _=1)->(E.I F _=E.I F _-E.I F _)->(0<=E.I F _)->(E.I F _<=E.I F _)->E.B F (fn _ (pr _ (pr (.ar .sub .i64 V3 (.mn cS V3)) (pr _ (pr _ (pr _ (pr _ (pr co (pr (.mn cS V3) (pr V1 (pr V3 (pr aU (pr V0 (pr aQ (pr ed _)))))))))))))))=true:=fun s0 s1 s2 s3=>ajC s0 s1 s2 s3
 try simp only[aa]at *
 grind
def aTB:=fb (AQ::nL) (fn 170 (pr (.ar .sub .i64 V1 (.mn cS V1)) (pr V3 (pr aU (pr V0 (pr aQ (pr ed (pr co (pr (.mn cS V1) rO)))))))))<|af fun F p0 p1 p2=>by
 have:=@aK F V1 (.mn cS V1)
 have:=(@ah F _ _ _ _).mp p2
 have hr2:(E.I F _=0)->(E.I F _=E.I F _-E.I F _)->(0<=E.I F _)->(E.I F _<=E.I F _)->E.B F (fn _ (pr (.ar .sub .i64 V1 (.mn cS V1)) (pr _ (pr _ (pr _ (pr _ (pr _ (pr co (pr (.mn cS V1) (pr V1 (pr V3 (pr aU (pr V0 (pr aQ (pr ed _)))))))))))))))=true:=fun s0 s1 s2 s3=>Yg s0 s1 s2 s3
 try simp only[aa]at *
 grind
def aui:=fb (ja::Mg::s7::Rg::WB) (fn 171 aky)<|ba fun F p0 p1 p2 p3 p4 p5 p6 p7=>by
 have hr4:(E.I F _=-1)->(E.I F _=E.I F Al*2)->(E.B F _=true)->(0<=E.I F _)->(E.I F _<=3)->(0<=E.I F _)->(E.I F _<E.I F _)->E.B F (fn _ (pr _ (pr cS _)))=true:=fun s0 s1 s2 s3 s4 s5 s6=>Pk p3 s0 s1 s2 s3 s4 s5 s6
 try simp only[aa]at *
 grind
def aIC:=fb ((.not ja)::Rg::ZM) (fn 170 (pr qz (pr oW (pr qd (pr pF (pr oA (pr C8 aky)))))))<|af fun F p0 p1 p2=>by
 have hr4:(E.I F _=E.I F _)->E.B F (fn _ (pr _ (pr _ (pr _ (pr _ (pr _ (pr _ (pr _ (pr cS _)))))))))=true:=fun s0=>fX p1 s0
 try simp only[aa]at *
 grind
def aPs:=fb (ja::aaA::s7::Rg::VK) (fn 170 (pr qz (pr oW (pr qd (pr pF (pr H9 (pr Em (pr co (pr (.ar .add .i64 jj (.int 1)) rO)))))))))<|ba fun F p0 p1 p2 p3 p4 p5 p6 p7=>by
 have:=@am F jj (.int 1)
 have hr4:(E.B F _=true)->(0<=E.I F _)->(E.I F _<=3)->(0<=E.I F _)->(E.I F _=E.I F _+1)->E.B F (fn _ (pr _ (pr _ (pr _ (pr _ (pr _ (pr _ (pr _ (pr (.ar .add .i64 jj (.int 1)) _)))))))))=true:=fun s0 s1 s2 s3 s4=>R8 p3 p1 s0 s1 s2 s3 s4
 try simp only[aa]at *
 grind
def p55:List Fa:=[ajA,abX,aku,acv,akF,VT,ake,UJ,acF,ahz,Zv,aby,axb,ao6,aW9,aTB,We,ahX,XZ,aaF,aui,Ty,aIC,Vw,aPs,ach,ZZ,alO]
theorem aoj:aN Try.prog (aZ (TO true)):=sc p55 (Wv true) agV ([]) (by kernel_rfl) (by kernel_rfl)
def afm:Nl:=nc aoj agV
def aRV:=fb Km vr<|af fun F p0 p1 p2=>by
 have:=(@ah F _ _ _ _).mp p0
 try simp only[aa]at *
 grind
def aR4:=fb Km uN<|af fun F p0 p1 p2=>by
 have:=(@ah F _ _ _ _).mp p0
 try simp only[aa]at *
 grind
def anm:=fb M3 JP<|aj fun F p0 p1 p2 p3=>by
 have:=@aK F V0 (.int 1)
 have:=(@ah F _ _ _ _).mp p0
 rw[show E.B F _=true↔_ from iff_of_eq (@ah F _ _ _ _)]
 try simp only[aa]at *
 grind
def aSJ:=fb Im vr<|af fun F p0 p1 p2=>by
 have:=(@ah F _ _ _ _).mp p0
 try simp only[aa]at *
 grind
def aCz:=fb Im uN<|af fun F p0 p1 p2=>by
 have:=(@ah F _ _ _ _).mp p0
 try simp only[aa]at *
 grind
def amt:=fb ([dE,oJ,yc]) ad4<|af fun F p0 p1 p2=>by
 have:=@aK F aU (.int 1)
 have:=(@ah F _ _ _ _).mp p0
 rw[show E.B F _=true↔_ from iff_of_eq (@ah F _ _ _ _)]
 try simp only[aa]at *
 grind
def azE:=fb JD vr<|af fun F p0 p1 p2=>by
 have:=(@ah F _ _ _ _).mp p0
 try simp only[aa]at *
 grind
def atZ:=fb JD uN<|af fun F p0 p1 p2=>by
 have:=(@ah F _ _ _ _).mp p0
 try simp only[aa]at *
 grind
def aj9:=fb Nw JP<|aj fun F p0 p1 p2 p3=>by
 have:=@aK F V0 (.int 1)
 have:=(@ah F _ _ _ _).mp p0
 rw[show E.B F _=true↔_ from iff_of_eq (@ah F _ _ _ _)]
 try simp only[aa]at *
 grind
def aQn:=fb FF vr<|af fun F p0 p1 p2=>by
 have:=(@ah F _ _ _ _).mp p0
 try simp only[aa]at *
 grind
def aNe:=fb FF uN<|af fun F p0 p1 p2=>by
 have:=(@ah F _ _ _ _).mp p0
 try simp only[aa]at *
 grind
def anu:=fb ([dE,oJ]) (fn 188 (pr V1 (pr (.ar .sub .i64 V3 (.int 1)) PP)))<|ak fun F p0 p1=>by
 have:=@aK F V3 (.int 1)
 have:=(@ah F _ _ _ _).mp p0
 rw[show E.B F _=true↔_ from iff_of_eq (@ah F _ _ _ _)]
 try simp only[aa]at *
 grind
def akS:=fb Ss JP<|aj fun F p0 p1 p2 p3=>by
 have:=@aK F V0 (.int 1)
 have:=(@ah F _ _ _ _).mp p0
 rw[show E.B F _=true↔_ from iff_of_eq (@ah F _ _ _ _)]
 try simp only[aa]at *
 grind
def aqR:=fb Ka vr<|af fun F p0 p1 p2=>by
 have:=(@ah F _ _ _ _).mp p0
 try simp only[aa]at *
 grind
def aEQ:=fb Ka uN<|af fun F p0 p1 p2=>by
 have:=(@ah F _ _ _ _).mp p0
 try simp only[aa]at *
 grind
def ai2:=fb ([dE,pX,yk]) ad4<|af fun F p0 p1 p2=>by
 have:=@aK F aU (.int 1)
 have:=(@ah F _ _ _ _).mp p0
 rw[show E.B F _=true↔_ from iff_of_eq (@ah F _ _ _ _)]
 try simp only[aa]at *
 grind
def aDd:=fb Fu vr<|af fun F p0 p1 p2=>by
 have:=(@ah F _ _ _ _).mp p0
 try simp only[aa]at *
 grind
def aWB:=fb Fu uN<|af fun F p0 p1 p2=>by
 have:=(@ah F _ _ _ _).mp p0
 try simp only[aa]at *
 grind
def ahq:=fb P6 JP<|aj fun F p0 p1 p2 p3=>by
 have:=@aK F V0 (.int 1)
 have:=(@ah F _ _ _ _).mp p0
 rw[show E.B F _=true↔_ from iff_of_eq (@ah F _ _ _ _)]
 try simp only[aa]at *
 grind
def aEy:=fb alT vr<|bb fun F p0 p1 p2 p3 p4 p5 p6=>by
 have hr1:(E.I F _=-1)->(E.I F _=E.I F eM*2)->(E.I F _<=0)->(E.I F _<=0)->(E.I F _<=0)->(E.I F _<=0)->E.B F (fn _ (pr _ (pr _ (pr V1 (pr V3 (pr aU (pr V0 (pr aQ (pr (fn 10 (.int 0)) _)))))))))=true:=fun s0 s1 s2 s3 s4 s5=>Wf s0 s1 s2 s3 s4 s5
 try simp only[aa]at *
 grind
def aIu:=fb ([dE,pX,Ce,Jy,A9,(fn 174 (pr ql (pr (var 18) (pr (.int (-1)) Io))))]) uN<|be fun F p0 p1 p2 p3 p4 p5=>by
 have hr1:(E.I F _<=0)->(E.I F _<=0)->(E.I F _<=0)->(E.I F _<=0)->E.B F (fn _ (pr _ (pr _ (pr _ (pr _ (pr _ (pr _ (pr _ (pr _ (pr V1 (pr V3 (pr aU (pr V0 _)))))))))))))=true:=fun s0 s1 s2 s3=>XO p5 s0 s1 s2 s3
 try simp only[aa]at *
 grind
def agO:=fb ([dE,(.not A9)]) (fn 188 (pr (.ar .sub .i64 V1 (.int 1)) OV))<|ak fun F p0 p1=>by
 have:=@aK F V1 (.int 1)
 have:=(@ah F _ _ _ _).mp p0
 rw[show E.B F _=true↔_ from iff_of_eq (@ah F _ _ _ _)]
 try simp only[aa]at *
 grind
def aR2:=fb M3 Gu<|aj fun F p0 p1 p2 p3=>by
 have:=@aK F V0 (.int 1)
 have:=(@ah F _ _ _ _).mp p0
 have hr1:(E.I F _=E.I F _-1)->(E.I F _<E.I F _)->(E.I F _<E.I F _)->(E.I F _<E.I F _)->(0<E.I F _)->(E.I F _=1)->E.B F (fn _ (pr _ (pr _ (pr _ (pr (.ar .sub .i64 V0 (.int 1)) (pr _ (pr _ (pr _ (pr (.int 1) (pr V1 (pr V3 (pr aU (pr V0 (pr aQ (pr (fn 10 (.int 0)) _)))))))))))))))=true:=fun s0 s1 s2 s3 s4 s5=>fX (r8 s0 s1 s2 s3 s4) s5
 try simp only[aa]at *
 grind
def aJo:=fb ([dE,oJ,yc,vM]) aiv<|aj fun F p0 p1 p2 p3=>by
 have:=@aK F aU (.int 1)
 have:=(@ah F _ _ _ _).mp p0
 have hr1:(E.I F _=E.I F _-1)->(E.I F _<E.I F _)->(E.I F _<E.I F _)->(E.I F _<=E.I F _)->(0<E.I F _)->(E.I F _=1)->E.B F (fn _ (pr _ (pr _ (pr (.ar .sub .i64 aU (.int 1)) (pr _ (pr _ (pr _ (pr _ (pr (.int 1) (pr V1 (pr V3 (pr aU (pr V0 (pr aQ (pr (fn 10 (.int 0)) _)))))))))))))))=true:=fun s0 s1 s2 s3 s4 s5=>fX (FX s0 s1 s2 s3 s4) s5
 try simp only[aa]at *
 grind
def aDl:=fb Nw Gu<|aj fun F p0 p1 p2 p3=>by
 have:=@aK F V0 (.int 1)
 have:=(@ah F _ _ _ _).mp p0
 have hr1:(E.I F _=E.I F _-1)->(E.I F _<E.I F _)->(E.I F _<E.I F _)->(E.I F _<E.I F _)->(0<E.I F _)->(E.I F _=1)->E.B F (fn _ (pr _ (pr _ (pr _ (pr (.ar .sub .i64 V0 (.int 1)) (pr _ (pr _ (pr _ (pr (.int 1) (pr V1 (pr V3 (pr aU (pr V0 (pr aQ (pr (fn 10 (.int 0)) _)))))))))))))))=true:=fun s0 s1 s2 s3 s4 s5=>fX (r8 s0 s1 s2 s3 s4) s5
 try simp only[aa]at *
 grind
def azZ:=fb XI (fn 170 (pr V1 (pr (.ar .sub .i64 V3 (.int 1)) agb)))<|aj fun F p0 p1 p2 p3=>by
 have:=@aK F V3 (.int 1)
 have:=(@ah F _ _ _ _).mp p0
 have hr1:(E.I F _=E.I F _-1)->(E.I F _<E.I F _)->(E.I F _<=E.I F _)->(E.I F _<=E.I F _)->(0<E.I F _)->(E.I F _=1)->E.B F (fn _ (pr _ (pr (.ar .sub .i64 V3 (.int 1)) (pr _ (pr _ (pr _ (pr _ (pr _ (pr (.int 1) (pr V1 (pr V3 (pr aU (pr V0 (pr aQ (pr (fn 10 (.int 0)) _)))))))))))))))=true:=fun s0 s1 s2 s3 s4 s5=>fX (ale s0 s1 s2 s3 s4) s5
 try simp only[aa]at *
 grind
def asr:=fb Ss Gu<|aj fun F p0 p1 p2 p3=>by
 have:=@aK F V0 (.int 1)
 have:=(@ah F _ _ _ _).mp p0
 have hr1:(E.I F _=E.I F _-1)->(E.I F _<E.I F _)->(E.I F _<E.I F _)->(E.I F _<E.I F _)->(0<E.I F _)->(E.I F _=1)->E.B F (fn _ (pr _ (pr _ (pr _ (pr (.ar .sub .i64 V0 (.int 1)) (pr _ (pr _ (pr _ (pr (.int 1) (pr V1 (pr V3 (pr aU (pr V0 (pr aQ (pr (fn 10 (.int 0)) _)))))))))))))))=true:=fun s0 s1 s2 s3 s4 s5=>fX (r8 s0 s1 s2 s3 s4) s5
 try simp only[aa]at *
 grind
def aR1:=fb ([dE,pX,yk,vM]) aiv<|aj fun F p0 p1 p2 p3=>by
 have:=@aK F aU (.int 1)
 have:=(@ah F _ _ _ _).mp p0
 have hr1:(E.I F _=E.I F _-1)->(E.I F _<E.I F _)->(E.I F _<E.I F _)->(E.I F _<=E.I F _)->(0<E.I F _)->(E.I F _=1)->E.B F (fn _ (pr _ (pr _ (pr (.ar .sub .i64 aU (.int 1)) (pr _ (pr _ (pr _ (pr _ (pr (.int 1) (pr V1 (pr V3 (pr aU (pr V0 (pr aQ (pr (fn 10 (.int 0)) _)))))))))))))))=true:=fun s0 s1 s2 s3 s4 s5=>fX (FX s0 s1 s2 s3 s4) s5
 try simp only[aa]at *
 grind
def aUh:=fb P6 Gu<|aj fun F p0 p1 p2 p3=>by
 have:=@aK F V0 (.int 1)
 have:=(@ah F _ _ _ _).mp p0
 have hr1:(E.I F _=E.I F _-1)->(E.I F _<E.I F _)->(E.I F _<E.I F _)->(E.I F _<E.I F _)->(0<E.I F _)->(E.I F _=1)->E.B F (fn _ (pr _ (pr _ (pr _ (pr (.ar .sub .i64 V0 (.int 1)) (pr _ (pr _ (pr _ (pr (.int 1) (pr V1 (pr V3 (pr aU (pr V0 (pr aQ (pr (fn 10 (.int 0)) _)))))))))))))))=true:=fun s0 s1 s2 s3 s4 s5=>fX (r8 s0 s1 s2 s3 s4) s5
 try simp only[aa]at *
 grind
def aQ5:=fb aaQ (fn 170 (pr (.ar .sub .i64 V1 (.int 1)) (pr V3 agb)))<|aB fun F p0 p1 p2 p3 p4=>by
 have:=@aK F V1 (.int 1)
 have:=(@ah F _ _ _ _).mp p0
 have hr1:(E.I F _=E.I F _-1)->(E.I F _<=E.I F _)->(E.I F _<=E.I F _)->(E.I F _<=E.I F _)->(0<E.I F _)->(E.I F _=1)->E.B F (fn _ (pr (.ar .sub .i64 V1 (.int 1)) (pr _ (pr _ (pr _ (pr _ (pr _ (pr _ (pr (.int 1) (pr V1 (pr V3 (pr aU (pr V0 (pr aQ (pr (fn 10 (.int 0)) _)))))))))))))))=true:=fun s0 s1 s2 s3 s4 s5=>fX (aaw s0 s1 s2 s3 s4) s5
 try simp only[aa]at *
 grind
def p56:List Fa:=[aRV,aR4,anm,aSJ,aCz,amt,azE,atZ,aj9,aQn,aNe,anu,akS,aqR,aEQ,ai2,aDd,aWB,ahq,aEy,aIu,agO,aR2,aJo,aDl,azZ,asr,aR1,aUh,aQ5]
theorem at8:aN Try.prog (aZ (Xj false)):=sc p56 ([]) afm ([]) (by kernel_rfl) (by kernel_rfl)
def acN:Nl:=nc at8 afm
def aJG:=fb Km tL<|af fun F p0 p1 p2=>by
 have:=(@ah F _ _ _ _).mp p0
 try simp only[aa]at *
 grind
def aM4:=fb Km uK<|af fun F p0 p1 p2=>by
 have:=(@ah F _ _ _ _).mp p0
 try simp only[aa]at *
 grind
def ars:=fb Im tL<|af fun F p0 p1 p2=>by
 have:=(@ah F _ _ _ _).mp p0
 try simp only[aa]at *
 grind
def aG3:=fb Im uK<|af fun F p0 p1 p2=>by
 have:=(@ah F _ _ _ _).mp p0
 try simp only[aa]at *
 grind
def asY:=fb JD tL<|af fun F p0 p1 p2=>by
 have:=(@ah F _ _ _ _).mp p0
 try simp only[aa]at *
 grind
def aJA:=fb JD uK<|af fun F p0 p1 p2=>by
 have:=(@ah F _ _ _ _).mp p0
 try simp only[aa]at *
 grind
def axx:=fb FF tL<|af fun F p0 p1 p2=>by
 have:=(@ah F _ _ _ _).mp p0
 try simp only[aa]at *
 grind
def aGj:=fb FF uK<|af fun F p0 p1 p2=>by
 have:=(@ah F _ _ _ _).mp p0
 try simp only[aa]at *
 grind
def atV:=fb Ka tL<|af fun F p0 p1 p2=>by
 have:=(@ah F _ _ _ _).mp p0
 try simp only[aa]at *
 grind
def aPL:=fb Ka uK<|af fun F p0 p1 p2=>by
 have:=(@ah F _ _ _ _).mp p0
 try simp only[aa]at *
 grind
def aq0:=fb Fu tL<|af fun F p0 p1 p2=>by
 have:=(@ah F _ _ _ _).mp p0
 try simp only[aa]at *
 grind
def aE9:=fb Fu uK<|af fun F p0 p1 p2=>by
 have:=(@ah F _ _ _ _).mp p0
 try simp only[aa]at *
 grind
def ay9:=fb alT tL<|bb fun F p0 p1 p2 p3 p4 p5 p6=>by
 have hr1:(E.I F _=-1)->(E.I F _=E.I F eM*2)->(E.I F _<=0)->(E.I F _<=0)->(E.I F _<=0)->(E.I F _<=0)->E.B F (fn _ (pr _ (pr _ (pr V1 (pr V3 (pr aU (pr V0 (pr aQ (pr ed _)))))))))=true:=fun s0 s1 s2 s3 s4 s5=>Wf s0 s1 s2 s3 s4 s5
 try simp only[aa]at *
 grind
def ayo:=fb ([dE,pX,Ce,Jy,A9,(fn 174 (pr ql (pr (var 18) (pr (.int (-1)) EG))))]) uK<|be fun F p0 p1 p2 p3 p4 p5=>by
 have hr1:(E.I F _<=0)->(E.I F _<=0)->(E.I F _<=0)->(E.I F _<=0)->E.B F (fn _ (pr _ (pr _ (pr _ (pr _ (pr _ (pr _ (pr _ (pr _ (pr V1 (pr V3 (pr aU (pr V0 _)))))))))))))=true:=fun s0 s1 s2 s3=>XO p5 s0 s1 s2 s3
 try simp only[aa]at *
 grind
def aQl:=fb M3 Hm<|aj fun F p0 p1 p2 p3=>by
 have:=@aK F V0 (.int 1)
 have:=(@ah F _ _ _ _).mp p0
 have hr1:(E.I F _=E.I F _-1)->(E.I F _<E.I F _)->(E.I F _<E.I F _)->(E.I F _<E.I F _)->(0<E.I F _)->(E.I F _=1)->E.B F (fn _ (pr _ (pr _ (pr _ (pr (.ar .sub .i64 V0 (.int 1)) (pr _ (pr _ (pr _ (pr (.int 1) (pr V1 (pr V3 (pr aU (pr V0 (pr aQ (pr ed _)))))))))))))))=true:=fun s0 s1 s2 s3 s4 s5=>fX (r8 s0 s1 s2 s3 s4) s5
 try simp only[aa]at *
 grind
def aTc:=fb ([dE,oJ,yc,vM]) UW<|aj fun F p0 p1 p2 p3=>by
 have:=@aK F aU (.int 1)
 have:=(@ah F _ _ _ _).mp p0
 have hr1:(E.I F _=E.I F _-1)->(E.I F _<E.I F _)->(E.I F _<E.I F _)->(E.I F _<=E.I F _)->(0<E.I F _)->(E.I F _=1)->E.B F (fn _ (pr _ (pr _ (pr (.ar .sub .i64 aU (.int 1)) (pr _ (pr _ (pr _ (pr _ (pr (.int 1) (pr V1 (pr V3 (pr aU (pr V0 (pr aQ (pr ed _)))))))))))))))=true:=fun s0 s1 s2 s3 s4 s5=>fX (FX s0 s1 s2 s3 s4) s5
 try simp only[aa]at *
 grind
def aEJ:=fb Nw Hm<|aj fun F p0 p1 p2 p3=>by
 have:=@aK F V0 (.int 1)
 have:=(@ah F _ _ _ _).mp p0
 have hr1:(E.I F _=E.I F _-1)->(E.I F _<E.I F _)->(E.I F _<E.I F _)->(E.I F _<E.I F _)->(0<E.I F _)->(E.I F _=1)->E.B F (fn _ (pr _ (pr _ (pr _ (pr (.ar .sub .i64 V0 (.int 1)) (pr _ (pr _ (pr _ (pr (.int 1) (pr V1 (pr V3 (pr aU (pr V0 (pr aQ (pr ed _)))))))))))))))=true:=fun s0 s1 s2 s3 s4 s5=>fX (r8 s0 s1 s2 s3 s4) s5
 try simp only[aa]at *
 grind
def aKr:=fb XI (fn 170 (pr V1 (pr (.ar .sub .i64 V3 (.int 1)) adc)))<|aj fun F p0 p1 p2 p3=>by
 have:=@aK F V3 (.int 1)
 have:=(@ah F _ _ _ _).mp p0
 have hr1:(E.I F _=E.I F _-1)->(E.I F _<E.I F _)->(E.I F _<=E.I F _)->(E.I F _<=E.I F _)->(0<E.I F _)->(E.I F _=1)->E.B F (fn _ (pr _ (pr (.ar .sub .i64 V3 (.int 1)) (pr _ (pr _ (pr _ (pr _ (pr _ (pr (.int 1) (pr V1 (pr V3 (pr aU (pr V0 (pr aQ (pr ed _)))))))))))))))=true:=fun s0 s1 s2 s3 s4 s5=>fX (ale s0 s1 s2 s3 s4) s5
 try simp only[aa]at *
 grind
def aGE:=fb Ss Hm<|aj fun F p0 p1 p2 p3=>by
 have:=@aK F V0 (.int 1)
 have:=(@ah F _ _ _ _).mp p0
 have hr1:(E.I F _=E.I F _-1)->(E.I F _<E.I F _)->(E.I F _<E.I F _)->(E.I F _<E.I F _)->(0<E.I F _)->(E.I F _=1)->E.B F (fn _ (pr _ (pr _ (pr _ (pr (.ar .sub .i64 V0 (.int 1)) (pr _ (pr _ (pr _ (pr (.int 1) (pr V1 (pr V3 (pr aU (pr V0 (pr aQ (pr ed _)))))))))))))))=true:=fun s0 s1 s2 s3 s4 s5=>fX (r8 s0 s1 s2 s3 s4) s5
 try simp only[aa]at *
 grind
def aws:=fb ([dE,pX,yk,vM]) UW<|aj fun F p0 p1 p2 p3=>by
 have:=@aK F aU (.int 1)
 have:=(@ah F _ _ _ _).mp p0
 have hr1:(E.I F _=E.I F _-1)->(E.I F _<E.I F _)->(E.I F _<E.I F _)->(E.I F _<=E.I F _)->(0<E.I F _)->(E.I F _=1)->E.B F (fn _ (pr _ (pr _ (pr (.ar .sub .i64 aU (.int 1)) (pr _ (pr _ (pr _ (pr _ (pr (.int 1) (pr V1 (pr V3 (pr aU (pr V0 (pr aQ (pr ed _)))))))))))))))=true:=fun s0 s1 s2 s3 s4 s5=>fX (FX s0 s1 s2 s3 s4) s5
 try simp only[aa]at *
 grind
def ao8:=fb P6 Hm<|aj fun F p0 p1 p2 p3=>by
 have:=@aK F V0 (.int 1)
 have:=(@ah F _ _ _ _).mp p0
 have hr1:(E.I F _=E.I F _-1)->(E.I F _<E.I F _)->(E.I F _<E.I F _)->(E.I F _<E.I F _)->(0<E.I F _)->(E.I F _=1)->E.B F (fn _ (pr _ (pr _ (pr _ (pr (.ar .sub .i64 V0 (.int 1)) (pr _ (pr _ (pr _ (pr (.int 1) (pr V1 (pr V3 (pr aU (pr V0 (pr aQ (pr ed _)))))))))))))))=true:=fun s0 s1 s2 s3 s4 s5=>fX (r8 s0 s1 s2 s3 s4) s5
 try simp only[aa]at *
 grind
def aUc:=fb aaQ (fn 170 (pr (.ar .sub .i64 V1 (.int 1)) (pr V3 adc)))<|aB fun F p0 p1 p2 p3 p4=>by
 have:=@aK F V1 (.int 1)
 have:=(@ah F _ _ _ _).mp p0
 have hr1:(E.I F _=E.I F _-1)->(E.I F _<=E.I F _)->(E.I F _<=E.I F _)->(E.I F _<=E.I F _)->(0<E.I F _)->(E.I F _=1)->E.B F (fn _ (pr (.ar .sub .i64 V1 (.int 1)) (pr _ (pr _ (pr _ (pr _ (pr _ (pr _ (pr (.int 1) (pr V1 (pr V3 (pr aU (pr V0 (pr aQ (pr ed _)))))))))))))))=true:=fun s0 s1 s2 s3 s4 s5=>fX (aaw s0 s1 s2 s3 s4) s5
 try simp only[aa]at *
 grind
def p57:List Fa:=[aJG,aM4,anm,ars,aG3,amt,asY,aJA,aj9,axx,aGj,anu,akS,atV,aPL,ai2,aq0,aE9,ahq,ay9,ayo,agO,aQl,aTc,aEJ,aKr,aGE,aws,ao8,aUc]
theorem aQw:aN Try.prog (aZ (Xj true)):=sc p57 ([]) acN ([]) (by kernel_rfl) (by kernel_rfl)
def adP:Nl:=nc aQw acN
end
end Go.Proofs.Ytnnbmcfabojjjaa.payPlans
