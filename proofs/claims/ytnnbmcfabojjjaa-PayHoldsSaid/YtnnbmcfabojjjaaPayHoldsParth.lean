/-
  PayHolds: contracts of functions, part 8.
-/
import Derived.Test.YtnnbmcfabojjjaaRows
import Derived.Test.YtnnbmcfabojjjaaNat
import Derived.WalkKit
import Derived.ProofKit
import Derived.OpenShut
import Derived.ChangeOld
import Derived.Below
import Derived.KernelRfl
import Derived.Lib.SmallJoins
import Derived.Laws.IdiomArrays
import Derived.Test.YtnnbmcfabojjjaaPayHoldsPartg
namespace Go.Proofs.Ytnnbmcfabojjjaa.payHolds
open Go.ChangeShapes Go.WideShapes Go.ChangeAt Go.RowKit
open Go.SX
open Go.SX.E (fn pr cmp var)
set_option linter.unusedVariables false
set_option linter.unusedSimpArgs false
set_option maxRecDepth 100000
noncomputable section
abbrev D0:E:=var 0
abbrev D1:E:=cmp .lss D0 (.int 0)
abbrev D2:E:=var 1
abbrev D3:E:=var 2
abbrev D4:E:=var 3
abbrev D5:E:=var 4
abbrev D6:E:=pr D3 (pr D4 D5)
abbrev D7:E:=pr D2 D6
abbrev D8:E:=pr D0 D7
abbrev D9:E:=fn 146 D8
abbrev n6:E:=.iff (.bool false) D9
abbrev nx:E:=.not D1
abbrev Vr:E:=cmp .lss (.int 20) D0
abbrev pT:E:=.not Vr
abbrev Q2:E:=cmp .lss D2 (.int 0)
abbrev sN:E:=.not Q2
abbrev VN:E:=cmp .lss (.int 20) D2
abbrev vg:E:=.not VN
abbrev ZU:E:=cmp .lss D3 (.int 0)
abbrev sk:E:=.not ZU
abbrev Tk:E:=cmp .lss (.int 20) D3
abbrev Gr:E:=.not Tk
abbrev VF:E:=cmp .lss D4 (.int 0)
abbrev BP:E:=.not VF
abbrev C8:E:=cmp .lss (.int 20) D4
abbrev JV:E:=cmp .lss D5 (.int 0)
abbrev D26:E:=cmp .lss (.int 20) D5
abbrev D27:E:=.not D26
abbrev pZ:E:=var 9
abbrev Dw:E:=fn 145 (pr D2 D3)
abbrev rU:E:=.iff pZ Dw
abbrev fk:E:=var 5
abbrev fe:E:=var 6
abbrev da:E:=var 7
abbrev gu:E:=fn 146 (pr D4 (pr D5 (pr fk (pr fe da))))
abbrev D35:E:=cmp .eql D3 (.int 0)
abbrev GG:E:=.not D35
abbrev D37:=[pZ,GG]
abbrev LY:=rU::D37
abbrev D39:E:=cmp .eql D3 (.int 1)
abbrev D40:E:=pr D3 (fn 9 (pr (fn 1 (pr D2 (.int 0))) (.int 12)))
abbrev D41:E:=pr D2 D40
abbrev D42:E:=pr D0 D41
abbrev D43:E:=pr (var 10) D42
abbrev D44:E:=fn 143 D43
abbrev Yl:=[D44]
abbrev D46:E:=pr D3 (.int 0)
abbrev D47:E:=pr D2 D46
abbrev D48:E:=pr D0 D47
abbrev Dc:E:=pr D4 (pr D5 (pr fk (pr fe D48)))
abbrev zU:E:=pr (.int 0) Dc
abbrev D51:E:=pr (fn 10 (.int 0)) (pr (.int 0) zU)
abbrev VX:E:=pr (var 10) D51
abbrev bC:E:=var 34
abbrev f9:E:=cmp .lss bC (.int 4)
abbrev qC:E:=cmp .eql bC (.int 0)
abbrev D56:E:=cmp .lss bC (.int 0)
abbrev Ud:E:=.not D56
abbrev zY:=[Ud]
abbrev D59:=qC::zY
abbrev CR:=f9::D59
abbrev Fp:E:=.not (cmp .lss (.ar .add .i64 bC (.int 1)) (.int 0))
abbrev mo:E:=cmp .eql bC (.int 1)
abbrev lX:E:=cmp .eql bC (.int 2)
abbrev va:E:=.not qC
abbrev vo:E:=.not mo
abbrev sU:E:=.not lX
abbrev BV:E:=.not (cmp .lss (.int 4) (.ar .add .i64 bC (.int 1)))
abbrev vQ:E:=.not (cmp .lss (.int 4) bC)
abbrev Zm:=vQ::zY
abbrev PE:=f9::Zm
abbrev th:E:=var 24
abbrev uW:E:=var 25
abbrev vU:E:=var 26
abbrev uK:E:=var 27
abbrev vr:E:=var 28
abbrev Ur:E:=pr bC zU
abbrev D77:E:=pr (fn 10 (.int 0)) Ur
abbrev D78:E:=pr vr D77
abbrev D79:E:=pr uK D78
abbrev D80:E:=pr vU D79
abbrev D81:E:=pr uW D80
abbrev D82:E:=pr th D81
abbrev D83:E:=fn 176 D82
abbrev yY:=[D83]
abbrev uF:E:=fn 176 (pr th (pr uW (pr vU (pr uK (pr vr (pr (var 31) Ur))))))
abbrev Di:E:=cmp .lss (fn 7 (pr (.int 4) (.ar .add .i64 bC (.int 1)))) (fn 7 (pr (.int 4) bC))
abbrev fY:E:=var 74
abbrev nQ:E:=cmp .lss fY da
abbrev D89:E:=cmp .lss fY (.int 0)
abbrev D90:E:=.not D89
abbrev KT:=[D90]
abbrev D92:=nQ::KT
abbrev D93:=gu::D92
abbrev D94:E:=cmp .lss da fY
abbrev LJ:E:=.not D94
abbrev vw:E:=var 64
abbrev vH:E:=var 65
abbrev uz:E:=var 66
abbrev uB:E:=var 67
abbrev Cl:E:=var 68
abbrev atA:E:=pr fY Dc
abbrev Qc:E:=pr (.int 4) atA
abbrev aEj:E:=pr (fn 10 (.int 0)) Qc
abbrev aIh:E:=pr Cl aEj
abbrev apG:E:=pr uB aIh
abbrev asC:E:=pr uz apG
abbrev aAw:E:=pr vH asC
abbrev aEW:E:=pr vw aAw
abbrev au3:E:=fn 176 aEW
abbrev T5:=[au3]
abbrev ar0:E:=pr da D48
abbrev ay6:E:=pr fe ar0
abbrev ai3:E:=pr fk ay6
abbrev azp:E:=pr D5 ai3
abbrev agi:E:=pr D4 azp
abbrev xP:E:=var 72
abbrev aqt:E:=cmp .lss (.int 30) (fn 6 (pr (var 69) xP))
abbrev apx:E:=.not aqt
abbrev axW:E:=cmp .lss (var 69) (.int 0)
abbrev auz:E:=.not axW
abbrev aiF:=[auz]
abbrev acS:=apx::aiF
abbrev aAE:=LJ::KT
abbrev arG:=nQ::aAE
abbrev acz:=gu::arG
abbrev wk:E:=var 71
abbrev aIF:E:=pr wk Qc
abbrev ap6:E:=pr Cl aIF
abbrev aot:E:=pr uB ap6
abbrev ayt:E:=pr uz aot
abbrev aju:E:=pr vH ayt
abbrev ayw:E:=pr vw aju
abbrev ab2:E:=fn 176 ayw
abbrev DO:E:=.not (cmp .lss (fn 7 (pr (.int 4) (.ar .add .i64 bC (.int 1)))) (.int 0))
abbrev O4:E:=pr (fn 10 (.int 0)) (.int 0)
abbrev Dn:E:=pr th (pr uW (pr vU (pr uK (pr vr O4))))
abbrev Lv:E:=pr bC (pr D4 Dn)
abbrev lY:E:=fn 177 (pr (.int 4) (pr da Dc))
abbrev jz:E:=var 35
abbrev i4:E:=var 36
abbrev jn:E:=var 37
abbrev i3:E:=var 38
abbrev jl:E:=var 39
abbrev nN:E:=var 42
abbrev ol:=Ud::yY
abbrev adZ:E:=pr (.ar .add .i64 bC (.int 1)) zU
abbrev pi:E:=fn 176 (pr jz (pr i4 (pr jn (pr i3 (pr jl (pr nN adZ))))))
abbrev ER:E:=fn 176 (pr jz (pr i4 (pr jn (pr i3 (pr jl (pr (fn 10 (.int 0)) adZ))))))
abbrev H6:E:=pr bC (pr D5 Dn)
abbrev MF:E:=pr bC (pr fk Dn)
abbrev Og:E:=pr bC (pr fe Dn)
abbrev MR:E:=pr (.int 4) (pr (.int 1) (pr vw (pr vH (pr uz (pr uB (pr Cl O4))))))
abbrev abL:=D90::T5
abbrev zJ:E:=var 77
abbrev z8:E:=var 78
abbrev yJ:E:=var 79
abbrev yq:E:=var 80
abbrev wO:E:=var 81
abbrev YS:=gu::abL
abbrev awt:E:=pr (.ar .add .i64 fY (.int 1)) Dc
abbrev ac1:E:=pr (.int 4) awt
abbrev aoe:E:=pr (var 84) ac1
abbrev aqy:E:=pr wO aoe
abbrev aoL:E:=pr yq aqy
abbrev atH:E:=pr yJ aoL
abbrev aIu:E:=pr z8 atH
abbrev ar1:E:=pr zJ aIu
abbrev Ws:E:=fn 176 ar1
abbrev aAL:E:=pr Cl (pr wk (.int 0))
abbrev apz:E:=pr uB aAL
abbrev asW:E:=pr uz apz
abbrev anI:E:=pr vH asW
abbrev atN:E:=pr vw anI
abbrev aje:E:=pr (.int 1) atN
abbrev Ts:E:=pr (.int 4) aje
abbrev acq:=ab2::KT
abbrev BQ:E:=pr th (pr uW (pr vU (pr uK (pr vr (pr (var 31) (.int 0))))))
abbrev Rx:E:=pr bC (pr D4 BQ)
abbrev Ia:=uF::zY
abbrev aaa:E:=pr bC (pr D5 BQ)
abbrev ON:E:=pr bC (pr fk BQ)
abbrev Rs:E:=pr bC (pr fe BQ)
abbrev afP:=uF::Zm
def aEG:=fb ([D1]) n6<|aB fun F p0=>by
 have:=@ch F D0 D2 D3 D4 D5
 try simp only[aa]at *
 grind
def ama:=fb ([nx,pT,Q2]) n6<|am fun F p0 p1 p2=>by
 have:=@ch F D0 D2 D3 D4 D5
 try simp only[aa]at *
 grind
def atw:=fb ([nx,pT,sN,vg,ZU]) n6<|aR fun F p0 p1 p2 p3 p4=>by
 have:=@ch F D0 D2 D3 D4 D5
 try simp only[aa]at *
 grind
def aE8:=fb ([nx,pT,sN,vg,sk,Gr,VF]) n6<|de fun F p0 p1 p2 p3 p4 p5 p6=>by
 have:=@ch F D0 D2 D3 D4 D5
 try simp only[aa]at *
 grind
def ajH:=fb ([nx,pT,sN,vg,sk,Gr,BP,(.not C8),(.not JV)]) (.iff D27 D9)<|eB fun F p0 p1 p2 p3 p4 p5 p6 p7 p8=>by
 have:=@ch F D0 D2 D3 D4 D5
 try simp only[aa]at *
 grind
def aDu:=fb ([nx,pT,sN,vg,sk,Gr,BP,(.not C8),JV]) n6<|eB fun F p0 p1 p2 p3 p4 p5 p6 p7 p8=>by
 have:=@ch F D0 D2 D3 D4 D5
 try simp only[aa]at *
 grind
def amA:=fb ([nx,pT,sN,vg,sk,Gr,BP,C8]) n6<|dw fun F p0 p1 p2 p3 p4 p5 p6 p7=>by
 have:=@ch F D0 D2 D3 D4 D5
 try simp only[aa]at *
 grind
def al9:=fb ([nx,pT,sN,vg,sk,Tk]) n6<|cr fun F p0 p1 p2 p3 p4 p5=>by
 have:=@ch F D0 D2 D3 D4 D5
 try simp only[aa]at *
 grind
def at9:=fb ([nx,pT,sN,VN]) n6<|aH fun F p0 p1 p2 p3=>by
 have:=@ch F D0 D2 D3 D4 D5
 try simp only[aa]at *
 grind
def att:=fb ([nx,Vr]) n6<|ax fun F p0 p1=>by
 have:=@ch F D0 D2 D3 D4 D5
 try simp only[aa]at *
 grind
def p51:List Fa:=[jM,aEG,ama,atw,aE8,ajH,aDu,amA,al9,at9,att]
theorem aqS:aW Try.prog (bu (at6)):=sc p51 ([]) WZ ([]) (by kernel_rfl) (by kernel_rfl)
def af5:Nl:=nc aqS WZ
def asG:=fb ([rU,(.not pZ)]) (.not (.and Dw gu))<|ax fun F p0 p1=>by
 simp_all
def ai6:=fb LY D39<|am fun F p0 p1 p2=>by
 have:=@dN F D3 D2
 try simp only[aa]at *
 grind
def aIv:=fb ([rU,pZ,GG,(.not D39)]) sk<|aH fun F p0 p1 p2 p3=>by
 have:=@dN F D3 D2
 try simp only[aa]at *
 grind
def aGM:=fb ([(.iff (var 8) gu),(.not (var 8))]) (.not (.and Dw gu))<|ax fun F p0 p1=>by
 simp_all
def ayL:=fb LY sk<|am fun F p0 p1 p2=>by
 have:=@dN F D3 D2
 try simp only[aa]at *
 grind
def apT:=fb LY (.not (cmp .lss (.int 1) D3))<|am fun F p0 p1 p2=>by
 have:=@dN F D3 D2
 try simp only[aa]at *
 grind
def aCE:=fb ([rU,pZ]) Dw<|ax fun F p0 p1=>by
 simp_all
def aC3:=fb ([(.iff (var 8) gu),(var 8)]) gu<|ax fun F p0 p1=>by
 simp_all
def aHP:=fb ([(fn 117 D2),(.not (cmp .lss (fn 9 (pr (fn 1 (pr D2 (.int 0))) (.int 12))) (var 11)))]) (.not (cmp .lss (.int 30) (var 11)))<|ax fun F p0 p1=>by
 have:=aC p0
 try simp only[aa]at *
 grind
def aFu:=fb ([rU,pZ]) (fn 188 (pr (fn 1 (pr D2 (.int 16))) (pr (fn 1 (pr D2 (.int 17))) (pr (fn 1 (pr D2 (.int 18))) (pr (fn 1 (pr D2 (.int 19))) (.int 0))))))<|ax fun F p0 p1=>by
 have hr0:(E.B F (fn _ (pr _ D3))=true)->E.B F (fn _ (pr _ (pr _ (pr _ (pr (fn 1 (pr D2 _)) _)))))=true:=fun s0=>aFN s0
 simp_all
def aAN:=fb ([rU,pZ]) (fn 188 (pr (fn 1 (pr D2 (.int 2))) (pr (fn 1 (pr D2 (.int 3))) (pr (fn 1 (pr D2 (.int 4))) (pr (fn 1 (pr D2 (.int 5))) (.int 0))))))<|ax fun F p0 p1=>by
 have hr0:(E.B F (fn _ (pr _ D3))=true)->E.B F (fn _ (pr _ (pr _ (pr _ (pr (fn 1 (pr D2 _)) _)))))=true:=fun s0=>ahX s0
 simp_all
def aIj:=fb (rU::pZ::GG::Yl) (fn 176 (pr (fn 1 (pr D2 (.int 16))) (pr (fn 1 (pr D2 (.int 17))) (pr (fn 1 (pr D2 (.int 18))) (pr (fn 1 (pr D2 (.int 19))) VX)))))<|aH fun F p0 p1 p2 p3=>by
 have:=@dN F D3 D2
 have hr0:(E.I F _=1)->E.B F (fn _ (pr _ (pr _ (pr _ (pr _ (pr _ (pr _ (pr _ (pr _ (pr D4 (pr D5 (pr fk (pr fe _)))))))))))))=true:=fun s0=>aw4 p3 s0
 try simp only[aa]at *
 grind
def anF:=fb (D35::Yl) (fn 176 (pr (fn 1 (pr D2 (.int 2))) (pr (fn 1 (pr D2 (.int 3))) (pr (fn 1 (pr D2 (.int 4))) (pr (fn 1 (pr D2 (.int 5))) VX)))))<|ax fun F p0 p1=>by
 have hr0:(E.I F _=0)->E.B F (fn _ (pr _ (pr _ (pr _ (pr _ (pr _ (pr _ (pr _ (pr _ (pr D4 (pr D5 (pr fk (pr fe _)))))))))))))=true:=fun s0=>arX p1 s0
 try simp only[aa]at *
 grind
def aGD:=fb ([gu]) BP<|aB fun F p0=>by
 have:=@ch F D4 D5 fk fe da
 try simp only[aa]at *
 grind
def aAe:=fb ([gu]) (.not JV)<|aB fun F p0=>by
 have:=@ch F D4 D5 fk fe da
 try simp only[aa]at *
 grind
def awy:=fb ([gu]) (.not (cmp .lss fk (.int 0)))<|aB fun F p0=>by
 have:=@ch F D4 D5 fk fe da
 try simp only[aa]at *
 grind
def aGz:=fb ([gu]) (.not (cmp .lss fe (.int 0)))<|aB fun F p0=>by
 have:=@ch F D4 D5 fk fe da
 try simp only[aa]at *
 grind
def aud:=fb ([gu]) (.not (cmp .lss da (.int 0)))<|aB fun F p0=>by
 have:=@ch F D4 D5 fk fe da
 try simp only[aa]at *
 grind
def aze:=fb CR Fp<|am fun F p0 p1 p2=>by
 try simp only[aa,ae]at *
 obtain⟨a2,ea2,qa2⟩:=ab ((E.I F bC)+(1))
 omega
def amG:=fb ([mo]) Fp<|aB fun F p0=>by
 try simp only[aa,ae]at *
 obtain⟨a2,ea2,qa2⟩:=ab ((E.I F bC)+(1))
 omega
def alm:=fb ([lX]) Fp<|aB fun F p0=>by
 try simp only[aa,ae]at *
 obtain⟨a2,ea2,qa2⟩:=ab ((E.I F bC)+(1))
 omega
def auJ:=fb (f9::va::vo::sU::zY) Fp<|aR fun F p0 p1 p2 p3 p4=>by
 try simp only[aa,ae]at *
 obtain⟨a2,ea2,qa2⟩:=ab ((E.I F bC)+(1))
 omega
def asV:=fb ([gu]) (.not C8)<|aB fun F p0=>by
 have:=@ch F D4 D5 fk fe da
 try simp only[aa]at *
 grind
def awT:=fb ([gu]) D27<|aB fun F p0=>by
 have:=@ch F D4 D5 fk fe da
 try simp only[aa]at *
 grind
def aED:=fb ([gu]) (.not (cmp .lss (.int 20) fk))<|aB fun F p0=>by
 have:=@ch F D4 D5 fk fe da
 try simp only[aa]at *
 grind
def ayH:=fb ([gu]) (.not (cmp .lss (.int 20) fe))<|aB fun F p0=>by
 have:=@ch F D4 D5 fk fe da
 try simp only[aa]at *
 grind
def awM:=fb ([gu]) (.not (cmp .lss (.int 20) da))<|aB fun F p0=>by
 have:=@ch F D4 D5 fk fe da
 try simp only[aa]at *
 grind
def ano:=fb CR BV<|am fun F p0 p1 p2=>by
 try simp only[aa,ae]at *
 obtain⟨a2,ea2,qa2⟩:=ab ((E.I F bC)+(1))
 omega
def aB2:=fb ([mo]) BV<|aB fun F p0=>by
 try simp only[aa,ae]at *
 obtain⟨a2,ea2,qa2⟩:=ab ((E.I F bC)+(1))
 omega
def ah2:=fb ([lX]) BV<|aB fun F p0=>by
 try simp only[aa,ae]at *
 obtain⟨a2,ea2,qa2⟩:=ab ((E.I F bC)+(1))
 omega
def aC1:=fb PE BV<|am fun F p0 p1 p2=>by
 try simp only[aa,ae]at *
 obtain⟨a2,ea2,qa2⟩:=ab ((E.I F bC)+(1))
 omega
def aGG:=fb ((.not f9)::vQ::yY) (fn 176 (pr th (pr uW (pr vU (pr uK (pr vr (pr (fn 10 (.int 0)) (pr (.int 4) zU))))))))<|am fun F p0 p1 p2=>by
 have hr2:(E.I F _=E.I F _)->(E.I F _=E.I F _)->E.B F (fn _ (pr _ (pr _ (pr _ (pr _ (pr _ (pr _ (pr (.int 4) (pr (.int 0) _)))))))))=true:=fun s0 s1=>RZ p2 s0 s1
 try simp only[aa]at *
 grind
def aiz:=fb ([(.not f9),uF,vQ]) (fn 176 (pr th (pr uW (pr vU (pr uK (pr vr (pr (var 31) (pr (.int 4) zU))))))))<|am fun F p0 p1 p2=>by
 have hr2:(E.I F _=E.I F _)->(E.I F _=E.I F _)->E.B F (fn _ (pr _ (pr _ (pr _ (pr _ (pr _ (pr _ (pr (.int 4) (pr (.int 0) _)))))))))=true:=fun s0 s1=>RZ p1 s0 s1
 try simp only[aa]at *
 grind
def aGd:=fb CR Di<|am fun F p0 p1 p2=>by
 try simp only[aa,ae]at *
 obtain⟨a2,ea2,qa2⟩:=ab ((E.I F bC)+(1))
 omega
def aiJ:=fb ([mo]) Di<|aB fun F p0=>by
 try simp only[aa,ae]at *
 obtain⟨a2,ea2,qa2⟩:=ab ((E.I F bC)+(1))
 omega
def aDh:=fb ([lX]) Di<|aB fun F p0=>by
 try simp only[aa,ae]at *
 obtain⟨a2,ea2,qa2⟩:=ab ((E.I F bC)+(1))
 omega
def ajC:=fb (f9::zY) Di<|ax fun F p0 p1=>by
 try simp only[aa,ae]at *
 obtain⟨a2,ea2,qa2⟩:=ab ((E.I F bC)+(1))
 omega
def aDq:=fb D93 (.not (cmp .lss (.ar .add .i64 fY (.int 1)) (.int 0)))<|am fun F p0 p1 p2=>by
 have:=@ch F D4 D5 fk fe da
 try simp only[aa,ae]at *
 obtain⟨a6,ea6,qa6⟩:=ab ((E.I F fY)+(1))
 grind
def aiR:=fb ((.not nQ)::LJ::T5) (fn 183 (pr vw (pr vH (pr uz (pr uB (pr (fn 10 (.int 0)) agi))))))<|am fun F p0 p1 p2=>by
 have hr2:(E.I F _=E.I F _)->E.B F (fn _ (pr _ (pr _ (pr _ (pr _ (pr _ (pr _ (pr _ (pr _ (pr _ (pr da _)))))))))))=true:=fun s0=>ao5 p2 s0
 try simp only[aa]at *
 grind
def ake:=fb acS (.not (cmp .lss (.int 2147483648) xP))<|ax fun F p0 p1=>by
 try simp only[aa]at *
 grind
def auL:=fb acz (.not (cmp .lss da (.ar .add .i64 fY (.int 1))))<|aH fun F p0 p1 p2 p3=>by
 try simp only[aa,ae]at *
 obtain⟨a6,ea6,qa6⟩:=ab ((E.I F fY)+(1))
 omega
def avG:=fb ([(.not nQ),ab2,LJ]) (fn 183 (pr vw (pr vH (pr uz (pr uB (pr (fn 40 wk) agi))))))<|am fun F p0 p1 p2=>by
 have hr2:(E.I F _=E.I F _)->E.B F (fn _ (pr _ (pr _ (pr _ (pr _ (pr _ (pr _ (pr _ (pr _ (pr _ (pr da _)))))))))))=true:=fun s0=>aHa p1 s0
 try simp only[aa]at *
 grind
def aIL:=fb CR DO<|am fun F p0 p1 p2=>by
 try simp only[aa,ae]at *
 obtain⟨a2,ea2,qa2⟩:=ab ((E.I F bC)+(1))
 omega
def aql:=fb ([mo]) DO<|aB fun F p0=>by
 try simp only[aa,ae]at *
 obtain⟨a2,ea2,qa2⟩:=ab ((E.I F bC)+(1))
 omega
def alH:=fb ([lX]) DO<|aB fun F p0=>by
 try simp only[aa,ae]at *
 obtain⟨a2,ea2,qa2⟩:=ab ((E.I F bC)+(1))
 omega
def as7:=fb PE DO<|am fun F p0 p1 p2=>by
 try simp only[aa,ae]at *
 obtain⟨a2,ea2,qa2⟩:=ab ((E.I F bC)+(1))
 omega
def aD7:=fb (qC::(fn 171 Lv)::yY) lY<|am fun F p0 p1 p2=>by
 have hr2:(E.I F _=0)->E.B F (fn _ (pr _ (pr da _)))=true:=fun s0=>abQ p2 p1 s0
 try simp only[aa]at *
 grind
def asE:=fb (f9::qC::(fn 170 (pr jz (pr i4 (pr jn (pr i3 (pr jl (pr nN Lv)))))))::ol) pi<|aR fun F p0 p1 p2 p3 p4=>by
 have:=@aM F bC (.int 1)
 have hr3:(E.I F _=0)->(E.I F _=E.I F _+1)->E.B F (fn _ (pr _ (pr _ (pr _ (pr _ (pr _ (pr _ (pr (.ar .add .i64 bC (.int 1)) _))))))))=true:=fun s0 s1=>No p4 p2 s0 s1
 try simp only[aa]at *
 grind
def avZ:=fb (f9::qC::(fn 170 (pr jz (pr i4 (pr jn (pr i3 (pr jl (pr (fn 10 (.int 0)) Lv)))))))::ol) ER<|aR fun F p0 p1 p2 p3 p4=>by
 have:=@aM F bC (.int 1)
 have hr3:(E.I F _=0)->(E.I F _=E.I F _+1)->E.B F (fn _ (pr _ (pr _ (pr _ (pr _ (pr _ (pr _ (pr (.ar .add .i64 bC (.int 1)) _))))))))=true:=fun s0 s1=>No p4 p2 s0 s1
 try simp only[aa]at *
 grind
def aFr:=fb (mo::(fn 171 H6)::yY) lY<|am fun F p0 p1 p2=>by
 have hr2:(E.I F _=1)->E.B F (fn _ (pr _ (pr da _)))=true:=fun s0=>Uv p2 p1 s0
 try simp only[aa]at *
 grind
def amW:=fb (f9::mo::(fn 170 (pr jz (pr i4 (pr jn (pr i3 (pr jl (pr nN H6)))))))::ol) pi<|aR fun F p0 p1 p2 p3 p4=>by
 have:=@aM F bC (.int 1)
 have hr3:(E.I F _=1)->(E.I F _=E.I F _+1)->E.B F (fn _ (pr _ (pr _ (pr _ (pr _ (pr _ (pr _ (pr (.ar .add .i64 bC (.int 1)) _))))))))=true:=fun s0 s1=>KV p4 p2 s0 s1
 try simp only[aa]at *
 grind
def aDV:=fb (f9::mo::(fn 170 (pr jz (pr i4 (pr jn (pr i3 (pr jl (pr (fn 10 (.int 0)) H6)))))))::ol) ER<|aR fun F p0 p1 p2 p3 p4=>by
 have:=@aM F bC (.int 1)
 have hr3:(E.I F _=1)->(E.I F _=E.I F _+1)->E.B F (fn _ (pr _ (pr _ (pr _ (pr _ (pr _ (pr _ (pr (.ar .add .i64 bC (.int 1)) _))))))))=true:=fun s0 s1=>KV p4 p2 s0 s1
 try simp only[aa]at *
 grind
def aD9:=fb (lX::(fn 171 MF)::yY) lY<|am fun F p0 p1 p2=>by
 have hr2:(E.I F _=2)->E.B F (fn _ (pr _ (pr da _)))=true:=fun s0=>PU p2 p1 s0
 try simp only[aa]at *
 grind
def ajR:=fb (f9::lX::(fn 170 (pr jz (pr i4 (pr jn (pr i3 (pr jl (pr nN MF)))))))::ol) pi<|aR fun F p0 p1 p2 p3 p4=>by
 have:=@aM F bC (.int 1)
 have hr3:(E.I F _=2)->(E.I F _=E.I F _+1)->E.B F (fn _ (pr _ (pr _ (pr _ (pr _ (pr _ (pr _ (pr (.ar .add .i64 bC (.int 1)) _))))))))=true:=fun s0 s1=>Oi p4 p2 s0 s1
 try simp only[aa]at *
 grind
def au4:=fb (f9::lX::(fn 170 (pr jz (pr i4 (pr jn (pr i3 (pr jl (pr (fn 10 (.int 0)) MF)))))))::ol) ER<|aR fun F p0 p1 p2 p3 p4=>by
 have:=@aM F bC (.int 1)
 have hr3:(E.I F _=2)->(E.I F _=E.I F _+1)->E.B F (fn _ (pr _ (pr _ (pr _ (pr _ (pr _ (pr _ (pr (.ar .add .i64 bC (.int 1)) _))))))))=true:=fun s0 s1=>Oi p4 p2 s0 s1
 try simp only[aa]at *
 grind
def ai8:=fb (f9::va::vo::sU::(fn 171 Og)::vQ::ol) lY<|dw fun F p0 p1 p2 p3 p4 p5 p6 p7=>by
 have hr2:(E.I F _=3)->E.B F (fn _ (pr _ (pr da _)))=true:=fun s0=>aeI p7 p4 s0
 try simp only[aa]at *
 grind
def aEd:=fb (f9::va::vo::sU::(fn 170 (pr jz (pr i4 (pr jn (pr i3 (pr jl (pr nN Og)))))))::vQ::ol) pi<|dw fun F p0 p1 p2 p3 p4 p5 p6 p7=>by
 have:=@aM F bC (.int 1)
 have hr3:(E.I F _=3)->(E.I F _=E.I F _+1)->E.B F (fn _ (pr _ (pr _ (pr _ (pr _ (pr _ (pr _ (pr (.ar .add .i64 bC (.int 1)) _))))))))=true:=fun s0 s1=>I7 p7 p4 s0 s1
 try simp only[aa]at *
 grind
def aEV:=fb (f9::va::vo::sU::(fn 170 (pr jz (pr i4 (pr jn (pr i3 (pr jl (pr (fn 10 (.int 0)) Og)))))))::vQ::ol) ER<|dw fun F p0 p1 p2 p3 p4 p5 p6 p7=>by
 have:=@aM F bC (.int 1)
 have hr3:(E.I F _=3)->(E.I F _=E.I F _+1)->E.B F (fn _ (pr _ (pr _ (pr _ (pr _ (pr _ (pr _ (pr (.ar .add .i64 bC (.int 1)) _))))))))=true:=fun s0 s1=>I7 p7 p4 s0 s1
 try simp only[aa]at *
 grind
def ar2:=fb (nQ::(fn 171 MR)::abL) lY<|aH fun F p0 p1 p2 p3=>by
 have hr2:(0<=E.I F _)->(E.I F _<E.I F _)->E.B F (fn _ (pr _ (pr da _)))=true:=fun s0 s1=>YX p3 p1 s0 s1
 try simp only[aa]at *
 grind
def at1:=fb (nQ::(fn 170 (pr zJ (pr z8 (pr yJ (pr yq (pr wO (pr (var 84) MR)))))))::YS) Ws<|aR fun F p0 p1 p2 p3 p4=>by
 have:=@aM F fY (.int 1)
 have:=@ch F D4 D5 fk fe da
 have hr3:(0<=E.I F _)->(E.I F _=E.I F _+1)->E.B F (fn _ (pr _ (pr _ (pr _ (pr _ (pr _ (pr _ (pr _ (pr (.ar .add .i64 fY (.int 1)) _)))))))))=true:=fun s0 s1=>Ky p4 p1 s0 s1
 try simp only[aa]at *
 grind
def asQ:=fb (nQ::(fn 170 (pr zJ (pr z8 (pr yJ (pr yq (pr wO (pr (fn 10 (.int 0)) MR)))))))::YS) (fn 176 (pr zJ (pr z8 (pr yJ (pr yq (pr wO (pr (fn 10 (.int 0)) ac1)))))))<|aR fun F p0 p1 p2 p3 p4=>by
 have:=@aM F fY (.int 1)
 have:=@ch F D4 D5 fk fe da
 have hr3:(0<=E.I F _)->(E.I F _=E.I F _+1)->E.B F (fn _ (pr _ (pr _ (pr _ (pr _ (pr _ (pr _ (pr _ (pr (.ar .add .i64 fY (.int 1)) _)))))))))=true:=fun s0 s1=>Ky p4 p1 s0 s1
 try simp only[aa]at *
 grind
def aFZ:=fb (nQ::(fn 171 Ts)::acq) lY<|aH fun F p0 p1 p2 p3=>by
 have hr2:(0<=E.I F _)->(E.I F _<E.I F _)->E.B F (fn _ (pr _ (pr da _)))=true:=fun s0 s1=>YX p2 p1 s0 s1
 try simp only[aa]at *
 grind
def ays:=fb (nQ::(fn 170 (pr zJ (pr z8 (pr yJ (pr yq (pr wO (pr (var 84) Ts)))))))::gu::acq) Ws<|aR fun F p0 p1 p2 p3 p4=>by
 have:=@aM F fY (.int 1)
 have:=@ch F D4 D5 fk fe da
 have hr3:(0<=E.I F _)->(E.I F _=E.I F _+1)->E.B F (fn _ (pr _ (pr _ (pr _ (pr _ (pr _ (pr _ (pr _ (pr (.ar .add .i64 fY (.int 1)) _)))))))))=true:=fun s0 s1=>Ky p3 p1 s0 s1
 try simp only[aa]at *
 grind
def aj6:=fb acS (.not (cmp .lss (.int 30) xP))<|ax fun F p0 p1=>by
 try simp only[aa]at *
 grind
def aF3:=fb D93 (cmp .lss (fn 7 (pr da (.ar .add .i64 fY (.int 1)))) (fn 7 (pr da fY)))<|am fun F p0 p1 p2=>by
 have:=@ch F D4 D5 fk fe da
 try simp only[aa,ae]at *
 obtain⟨a3,ea3,qa3⟩:=ab ((E.I F fY)+(1))
 grind
def axo:=fb ([qC,(fn 171 Rx),uF]) lY<|am fun F p0 p1 p2=>by
 have hr2:(E.I F _=0)->E.B F (fn _ (pr _ (pr da _)))=true:=fun s0=>abQ p2 p1 s0
 try simp only[aa]at *
 grind
def ajz:=fb (f9::qC::(fn 170 (pr jz (pr i4 (pr jn (pr i3 (pr jl (pr nN Rx)))))))::Ia) pi<|aR fun F p0 p1 p2 p3 p4=>by
 have:=@aM F bC (.int 1)
 have hr3:(E.I F _=0)->(E.I F _=E.I F _+1)->E.B F (fn _ (pr _ (pr _ (pr _ (pr _ (pr _ (pr _ (pr (.ar .add .i64 bC (.int 1)) _))))))))=true:=fun s0 s1=>No p3 p2 s0 s1
 try simp only[aa]at *
 grind
def aGp:=fb ([mo,(fn 171 aaa),uF]) lY<|am fun F p0 p1 p2=>by
 have hr2:(E.I F _=1)->E.B F (fn _ (pr _ (pr da _)))=true:=fun s0=>Uv p2 p1 s0
 try simp only[aa]at *
 grind
def azc:=fb (f9::mo::(fn 170 (pr jz (pr i4 (pr jn (pr i3 (pr jl (pr nN aaa)))))))::Ia) pi<|aR fun F p0 p1 p2 p3 p4=>by
 have:=@aM F bC (.int 1)
 have hr3:(E.I F _=1)->(E.I F _=E.I F _+1)->E.B F (fn _ (pr _ (pr _ (pr _ (pr _ (pr _ (pr _ (pr (.ar .add .i64 bC (.int 1)) _))))))))=true:=fun s0 s1=>KV p3 p2 s0 s1
 try simp only[aa]at *
 grind
def avt:=fb ([lX,(fn 171 ON),uF]) lY<|am fun F p0 p1 p2=>by
 have hr2:(E.I F _=2)->E.B F (fn _ (pr _ (pr da _)))=true:=fun s0=>PU p2 p1 s0
 try simp only[aa]at *
 grind
def aAl:=fb (f9::lX::(fn 170 (pr jz (pr i4 (pr jn (pr i3 (pr jl (pr nN ON)))))))::Ia) pi<|aR fun F p0 p1 p2 p3 p4=>by
 have:=@aM F bC (.int 1)
 have hr3:(E.I F _=2)->(E.I F _=E.I F _+1)->E.B F (fn _ (pr _ (pr _ (pr _ (pr _ (pr _ (pr _ (pr (.ar .add .i64 bC (.int 1)) _))))))))=true:=fun s0 s1=>Oi p3 p2 s0 s1
 try simp only[aa]at *
 grind
def aDo:=fb (f9::va::vo::sU::(fn 171 Rs)::afP) lY<|dw fun F p0 p1 p2 p3 p4 p5 p6 p7=>by
 have hr2:(E.I F _=3)->E.B F (fn _ (pr _ (pr da _)))=true:=fun s0=>aeI p5 p4 s0
 try simp only[aa]at *
 grind
def aF2:=fb (f9::va::vo::sU::(fn 170 (pr jz (pr i4 (pr jn (pr i3 (pr jl (pr nN Rs)))))))::afP) pi<|dw fun F p0 p1 p2 p3 p4 p5 p6 p7=>by
 have:=@aM F bC (.int 1)
 have hr3:(E.I F _=3)->(E.I F _=E.I F _+1)->E.B F (fn _ (pr _ (pr _ (pr _ (pr _ (pr _ (pr _ (pr (.ar .add .i64 bC (.int 1)) _))))))))=true:=fun s0 s1=>I7 p5 p4 s0 s1
 try simp only[aa]at *
 grind
def atb:=fb ([(cmp .eql (fn 0 wk) xP)]) (cmp .eql (fn 0 (fn 40 wk)) xP)<|aB fun F p0=>by
 simp_all[axC]
def aCm:=fb acz (.not (cmp .lss (fn 7 (pr da (.ar .add .i64 fY (.int 1)))) (.int 0)))<|aH fun F p0 p1 p2 p3=>by
 try simp only[aa,ae]at *
 obtain⟨a3,ea3,qa3⟩:=ab ((E.I F fY)+(1))
 omega
def p52:List Fa:=[jM,asG,ai6,aIv,aGM,ayL,apT,aCE,aC3,aHP,aFu,aAN,aIj,anF,aGD,aAe,awy,aGz,aud,aze,amG,alm,auJ,asV,awT,aED,ayH,awM,ano,aB2,ah2,aC1,aGG,aiz,aGd,aiJ,aDh,ajC,aDq,aiR,ake,auL,avG,aIL,aql,alH,as7,aD7,asE,avZ,aFr,amW,aDV,aD9,ajR,au4,ai8,aEd,aEV,ar2,at1,asQ,aFZ,ays,aj6,aF3,axo,ajz,aGp,azc,avt,aAl,aDo,aF2,atb,aCm]
theorem ahT:aW Try.prog (bu (aGv)):=sc p52 (aIw) af5 ([]) (by kernel_rfl) (by kernel_rfl)
def QA:Nl:=nc ahT af5
end
end Go.Proofs.Ytnnbmcfabojjjaa.payHolds
