/-
  PayPlans: contracts of functions, part 10.
-/
import Derived.Test.YtnnbmcfabojjjaaRows
import Derived.Test.YtnnbmcfabojjjaaNat
import Derived.WalkKit
import Derived.ProofKit
import Derived.OpenShut
import Derived.ChangeOld
import Derived.Below
import Derived.KernelRfl
import Derived.Lib.SmallJoins
import Derived.Laws.IdiomArrays
import Derived.Test.YtnnbmcfabojjjaaPayPlansParti
namespace Go.Proofs.Ytnnbmcfabojjjaa.payPlans
open Go.ChangeShapes Go.WideShapes Go.ChangeAt Go.RowKit
open Go.SX
open Go.SX.E (fn pr cmp var)
set_option linter.unusedVariables false
set_option linter.unusedSimpArgs false
set_option maxRecDepth 100000
noncomputable section
abbrev U0:E:=var 0
abbrev U1:E:=cmp .lss U0 (.int 0)
abbrev U2:E:=var 1
abbrev U3:E:=var 2
abbrev U4:E:=var 3
abbrev U5:E:=var 4
abbrev U6:E:=pr U3 (pr U4 U5)
abbrev U7:E:=pr U2 U6
abbrev U8:E:=pr U0 U7
abbrev U9:E:=fn 146 U8
abbrev oU:E:=.iff (.bool false) U9
abbrev oG:E:=.not U1
abbrev U12:E:=cmp .lss (.int 20) U0
abbrev q9:E:=.not U12
abbrev U14:E:=cmp .lss U2 (.int 0)
abbrev tN:E:=.not U14
abbrev U16:E:=cmp .lss (.int 20) U2
abbrev yj:E:=.not U16
abbrev U18:E:=cmp .lss U3 (.int 0)
abbrev uf:E:=.not U18
abbrev U20:E:=cmp .lss (.int 20) U3
abbrev Ff:E:=.not U20
abbrev U22:E:=cmp .lss U4 (.int 0)
abbrev IV:E:=.not U22
abbrev Jn:E:=cmp .lss (.int 20) U4
abbrev LA:E:=cmp .lss U5 (.int 0)
abbrev U26:E:=cmp .lss (.int 20) U5
abbrev U27:E:=.not U26
abbrev rf:E:=var 9
abbrev Ib:E:=fn 145 (pr U2 U3)
abbrev vz:E:=.iff rf Ib
abbrev eh:E:=var 5
abbrev ez:E:=var 6
abbrev cH:E:=var 7
abbrev fI:E:=fn 146 (pr U4 (pr U5 (pr eh (pr ez cH))))
abbrev U35:E:=cmp .eql U3 (.int 0)
abbrev Qs:E:=.not U35
abbrev U37:=[rf,Qs]
abbrev Sp:=vz::U37
abbrev U39:E:=cmp .eql U3 (.int 1)
abbrev U40:E:=pr U3 (fn 9 (pr (fn 1 (pr U2 (.int 0))) (.int 12)))
abbrev U41:E:=pr U2 U40
abbrev U42:E:=pr U0 U41
abbrev U43:E:=pr (var 10) U42
abbrev U44:E:=fn 143 U43
abbrev U45:=[U44]
abbrev U46:E:=pr U3 (.int 0)
abbrev U47:E:=pr U2 U46
abbrev Wc:E:=pr U0 U47
abbrev EL:E:=pr U4 (pr U5 (pr eh (pr ez Wc)))
abbrev xk:E:=pr (.int 0) EL
abbrev U51:E:=pr (fn 10 (.int 0)) (pr (.int 0) xk)
abbrev U52:E:=pr (var 10) U51
abbrev bY:E:=var 34
abbrev fv:E:=cmp .lss bY (.int 4)
abbrev td:E:=cmp .eql bY (.int 0)
abbrev U56:E:=cmp .lss bY (.int 0)
abbrev U57:E:=.not U56
abbrev CO:=[U57]
abbrev U59:=td::CO
abbrev JF:=fv::U59
abbrev Ga:E:=.not (cmp .lss (.ar .add .i64 bY (.int 1)) (.int 0))
abbrev od:E:=cmp .eql bY (.int 1)
abbrev ou:E:=cmp .eql bY (.int 2)
abbrev ye:E:=.not td
abbrev zd:E:=.not od
abbrev yG:E:=.not ou
abbrev IB:E:=.not (cmp .lss (.int 4) (.ar .add .i64 bY (.int 1)))
abbrev xb:E:=.not (cmp .lss (.int 4) bY)
abbrev U70:=xb::CO
abbrev U71:=fv::U70
abbrev zw:E:=var 24
abbrev yz:E:=var 25
abbrev ym:E:=var 26
abbrev yL:E:=var 27
abbrev yV:E:=var 28
abbrev Uk:E:=pr bY xk
abbrev U78:E:=pr (fn 10 (.int 0)) Uk
abbrev U79:E:=pr yV U78
abbrev U80:E:=pr yL U79
abbrev U81:E:=pr ym U80
abbrev U82:E:=pr yz U81
abbrev U83:E:=pr zw U82
abbrev U84:E:=fn 176 U83
abbrev CR:=[U84]
abbrev wo:E:=fn 176 (pr zw (pr yz (pr ym (pr yL (pr yV (pr (var 31) Uk))))))
abbrev Ge:E:=cmp .lss (fn 7 (pr (.int 4) (.ar .add .i64 bY (.int 1)))) (fn 7 (pr (.int 4) bY))
abbrev kL:E:=var 74
abbrev oK:E:=cmp .lss kL cH
abbrev U90:E:=cmp .lss kL (.int 0)
abbrev U91:E:=.not U90
abbrev SH:=[U91]
abbrev U93:=oK::SH
abbrev U94:=fI::U93
abbrev U96:E:=cmp .lss cH kL
abbrev S1:E:=.not U96
abbrev xW:E:=var 64
abbrev yA:E:=var 65
abbrev xy:E:=var 66
abbrev yJ:E:=var 67
abbrev HQ:E:=var 68
abbrev aBV:E:=pr kL EL
abbrev aeC:E:=pr (.int 4) aBV
abbrev aw6:E:=pr (fn 10 (.int 0)) aeC
abbrev aBY:E:=pr HQ aw6
abbrev azC:E:=pr yJ aBY
abbrev aAG:E:=pr xy azC
abbrev aHz:E:=pr yA aAG
abbrev aAN:E:=pr xW aHz
abbrev aMp:E:=fn 176 aAN
abbrev an3:=[aMp]
abbrev aUM:E:=pr cH Wc
abbrev aA5:E:=pr ez aUM
abbrev aFL:E:=pr eh aA5
abbrev aUN:E:=pr U5 aFL
abbrev Vx:E:=pr U4 aUN
abbrev BI:E:=var 72
abbrev aQV:E:=cmp .lss (.int 30) (fn 6 (pr (var 69) BI))
abbrev aRh:E:=.not aQV
abbrev aGX:E:=cmp .lss (var 69) (.int 0)
abbrev aK0:E:=.not aGX
abbrev aWU:=[aK0]
abbrev YF:=aRh::aWU
abbrev apz:=S1::SH
abbrev aUw:=oK::apz
abbrev an5:=fI::aUw
abbrev BP:E:=var 71
abbrev aLo:E:=pr BP aeC
abbrev aNl:E:=pr HQ aLo
abbrev aYe:E:=pr yJ aNl
abbrev aoK:E:=pr xy aYe
abbrev aAn:E:=pr yA aoK
abbrev aBy:E:=pr xW aAn
abbrev adJ:E:=fn 176 aBy
abbrev GM:E:=.not (cmp .lss (fn 7 (pr (.int 4) (.ar .add .i64 bY (.int 1)))) (.int 0))
abbrev ab3:E:=pr (fn 10 (.int 0)) (.int 0)
abbrev Fy:E:=pr zw (pr yz (pr ym (pr yL (pr yV ab3))))
abbrev Ro:E:=pr bY (pr U4 Fy)
abbrev nx:E:=fn 177 (pr (.int 4) (pr cH EL))
abbrev jr:E:=var 35
abbrev jv:E:=var 36
abbrev jN:E:=var 37
abbrev ji:E:=var 38
abbrev jy:E:=var 39
abbrev qi:E:=var 42
abbrev qn:=U57::CR
abbrev sb:E:=fn 176 (pr jr (pr jv (pr jN (pr ji (pr jy (pr qi (pr (.ar .add .i64 bY (.int 1)) xk)))))))
abbrev IQ:E:=fn 176 (pr jr (pr jv (pr jN (pr ji (pr jy (pr (fn 10 (.int 0)) (pr (.ar .add .i64 bY (.int 1)) xk)))))))
abbrev Lx:E:=pr bY (pr U5 Fy)
abbrev Lp:E:=pr bY (pr eh Fy)
abbrev Pz:E:=pr bY (pr ez Fy)
abbrev NH:E:=pr (.int 4) (pr (.int 1) (pr xW (pr yA (pr xy (pr yJ (pr HQ ab3))))))
abbrev aoe:=U91::an3
abbrev Br:E:=var 77
abbrev zC:E:=var 78
abbrev Cr:E:=var 79
abbrev Ao:E:=var 80
abbrev zI:E:=var 81
abbrev Xz:=fI::aoe
abbrev aG0:E:=pr (.ar .add .i64 kL (.int 1)) EL
abbrev Ud:E:=pr (.int 4) aG0
abbrev aGU:E:=pr (var 84) Ud
abbrev aKB:E:=pr zI aGU
abbrev aEV:E:=pr Ao aKB
abbrev asw:E:=pr Cr aEV
abbrev aA0:E:=pr zC asw
abbrev aN2:E:=pr Br aA0
abbrev aba:E:=fn 176 aN2
abbrev ax4:E:=pr HQ (pr BP (.int 0))
abbrev aHE:E:=pr yJ ax4
abbrev awa:E:=pr xy aHE
abbrev auP:E:=pr yA awa
abbrev apn:E:=pr xW auP
abbrev aCn:E:=pr (.int 1) apn
abbrev anT:E:=pr (.int 4) aCn
abbrev ak0:=adJ::SH
abbrev DQ:E:=pr zw (pr yz (pr ym (pr yL (pr yV (pr (var 31) (.int 0))))))
abbrev Us:E:=pr bY (pr U4 DQ)
abbrev Nh:=wo::CO
abbrev amM:E:=pr bY (pr U5 DQ)
abbrev anI:E:=pr bY (pr eh DQ)
abbrev akp:E:=pr bY (pr ez DQ)
abbrev VR:=wo::U70
def aE5:=fb ([U1]) oU<|aq fun F p0=>by
 have:=@aO F U0 U2 U3 U4 U5
 try simp only[aa]at *
 grind
def aUj:=fb ([oG,q9,U14]) oU<|af fun F p0 p1 p2=>by
 have:=@aO F U0 U2 U3 U4 U5
 try simp only[aa]at *
 grind
def aLk:=fb ([oG,q9,tN,yj,U18]) oU<|aB fun F p0 p1 p2 p3 p4=>by
 have:=@aO F U0 U2 U3 U4 U5
 try simp only[aa]at *
 grind
def aIT:=fb ([oG,q9,tN,yj,uf,Ff,U22]) oU<|bb fun F p0 p1 p2 p3 p4 p5 p6=>by
 have:=@aO F U0 U2 U3 U4 U5
 try simp only[aa]at *
 grind
def aWl:=fb ([oG,q9,tN,yj,uf,Ff,IV,(.not Jn),(.not LA)]) (.iff U27 U9)<|bh fun F p0 p1 p2 p3 p4 p5 p6 p7 p8=>by
 have:=@aO F U0 U2 U3 U4 U5
 try simp only[aa]at *
 grind
def aBJ:=fb ([oG,q9,tN,yj,uf,Ff,IV,(.not Jn),LA]) oU<|bh fun F p0 p1 p2 p3 p4 p5 p6 p7 p8=>by
 have:=@aO F U0 U2 U3 U4 U5
 try simp only[aa]at *
 grind
def arY:=fb ([oG,q9,tN,yj,uf,Ff,IV,Jn]) oU<|ba fun F p0 p1 p2 p3 p4 p5 p6 p7=>by
 have:=@aO F U0 U2 U3 U4 U5
 try simp only[aa]at *
 grind
def aV0:=fb ([oG,q9,tN,yj,uf,U20]) oU<|be fun F p0 p1 p2 p3 p4 p5=>by
 have:=@aO F U0 U2 U3 U4 U5
 try simp only[aa]at *
 grind
def asN:=fb ([oG,q9,tN,U16]) oU<|aj fun F p0 p1 p2 p3=>by
 have:=@aO F U0 U2 U3 U4 U5
 try simp only[aa]at *
 grind
def aC1:=fb ([oG,U12]) oU<|ak fun F p0 p1=>by
 have:=@aO F U0 U2 U3 U4 U5
 try simp only[aa]at *
 grind
def p58:List Fa:=[fK,aE5,aUj,aLk,aIT,aWl,aBJ,arY,aV0,asN,aC1]
theorem avf:aN Try.prog (aZ (aTf)):=sc p58 ([]) adP ([]) (by kernel_rfl) (by kernel_rfl)
def ae1:Nl:=nc avf adP
def aID:=fb ([vz,(.not rf)]) (.not (.and Ib fI))<|ak fun F p0 p1=>by
 simp_all
def azT:=fb Sp U39<|af fun F p0 p1 p2=>by
 have:=@ij F U3 U2
 try simp only[aa]at *
 grind
def awA:=fb ([vz,rf,Qs,(.not U39)]) uf<|aj fun F p0 p1 p2 p3=>by
 have:=@ij F U3 U2
 try simp only[aa]at *
 grind
def aFy:=fb ([(.iff (var 8) fI),(.not (var 8))]) (.not (.and Ib fI))<|ak fun F p0 p1=>by
 simp_all
def aBr:=fb Sp uf<|af fun F p0 p1 p2=>by
 have:=@ij F U3 U2
 try simp only[aa]at *
 grind
def aTk:=fb Sp (.not (cmp .lss (.int 1) U3))<|af fun F p0 p1 p2=>by
 have:=@ij F U3 U2
 try simp only[aa]at *
 grind
def aAB:=fb ([vz,rf]) Ib<|ak fun F p0 p1=>by
 simp_all
def awk:=fb ([(.iff (var 8) fI),(var 8)]) fI<|ak fun F p0 p1=>by
 simp_all
def aRp:=fb ([(fn 117 U2),(.not (cmp .lss (fn 9 (pr (fn 1 (pr U2 (.int 0))) (.int 12))) (var 11)))]) (.not (cmp .lss (.int 30) (var 11)))<|ak fun F p0 p1=>by
 have:=ap p0
 try simp only[aa]at *
 grind
def arJ:=fb ([vz,rf]) (fn 188 (pr (fn 1 (pr U2 (.int 16))) (pr (fn 1 (pr U2 (.int 17))) (pr (fn 1 (pr U2 (.int 18))) (pr (fn 1 (pr U2 (.int 19))) (.int 0))))))<|ak fun F p0 p1=>by
 have hr0:(E.B F (fn _ (pr _ U3))=true)->E.B F (fn _ (pr _ (pr _ (pr _ (pr (fn 1 (pr U2 _)) _)))))=true:=fun s0=>ah5 s0
 simp_all
def aCA:=fb ([vz,rf]) (fn 188 (pr (fn 1 (pr U2 (.int 2))) (pr (fn 1 (pr U2 (.int 3))) (pr (fn 1 (pr U2 (.int 4))) (pr (fn 1 (pr U2 (.int 5))) (.int 0))))))<|ak fun F p0 p1=>by
 have hr0:(E.B F (fn _ (pr _ U3))=true)->E.B F (fn _ (pr _ (pr _ (pr _ (pr (fn 1 (pr U2 _)) _)))))=true:=fun s0=>Ye s0
 simp_all
def aPF:=fb (vz::rf::Qs::U45) (fn 176 (pr (fn 1 (pr U2 (.int 16))) (pr (fn 1 (pr U2 (.int 17))) (pr (fn 1 (pr U2 (.int 18))) (pr (fn 1 (pr U2 (.int 19))) U52)))))<|aj fun F p0 p1 p2 p3=>by
 have:=@ij F U3 U2
 have hr0:(E.I F _=1)->E.B F (fn _ (pr _ (pr _ (pr _ (pr _ (pr _ (pr _ (pr _ (pr _ (pr U4 (pr U5 (pr eh (pr ez _)))))))))))))=true:=fun s0=>aAp p3 s0
 try simp only[aa]at *
 grind
def aPJ:=fb (U35::U45) (fn 176 (pr (fn 1 (pr U2 (.int 2))) (pr (fn 1 (pr U2 (.int 3))) (pr (fn 1 (pr U2 (.int 4))) (pr (fn 1 (pr U2 (.int 5))) U52)))))<|ak fun F p0 p1=>by
 have hr0:(E.I F _=0)->E.B F (fn _ (pr _ (pr _ (pr _ (pr _ (pr _ (pr _ (pr _ (pr _ (pr U4 (pr U5 (pr eh (pr ez _)))))))))))))=true:=fun s0=>aYy p1 s0
 try simp only[aa]at *
 grind
def aJv:=fb ([fI]) IV<|aq fun F p0=>by
 have:=@aO F U4 U5 eh ez cH
 try simp only[aa]at *
 grind
def aJD:=fb ([fI]) (.not LA)<|aq fun F p0=>by
 have:=@aO F U4 U5 eh ez cH
 try simp only[aa]at *
 grind
def aSY:=fb ([fI]) (.not (cmp .lss eh (.int 0)))<|aq fun F p0=>by
 have:=@aO F U4 U5 eh ez cH
 try simp only[aa]at *
 grind
def aop:=fb ([fI]) (.not (cmp .lss ez (.int 0)))<|aq fun F p0=>by
 have:=@aO F U4 U5 eh ez cH
 try simp only[aa]at *
 grind
def al3:=fb ([fI]) (.not (cmp .lss cH (.int 0)))<|aq fun F p0=>by
 have:=@aO F U4 U5 eh ez cH
 try simp only[aa]at *
 grind
def aOe:=fb JF Ga<|af fun F p0 p1 p2=>by
 try simp only[aa,ab]at *
 obtain⟨a2,ea2,qa2⟩:=ae ((E.I F bY)+(1))
 omega
def az8:=fb ([od]) Ga<|aq fun F p0=>by
 try simp only[aa,ab]at *
 obtain⟨a2,ea2,qa2⟩:=ae ((E.I F bY)+(1))
 omega
def aUd:=fb ([ou]) Ga<|aq fun F p0=>by
 try simp only[aa,ab]at *
 obtain⟨a2,ea2,qa2⟩:=ae ((E.I F bY)+(1))
 omega
def aBF:=fb (fv::ye::zd::yG::CO) Ga<|aB fun F p0 p1 p2 p3 p4=>by
 try simp only[aa,ab]at *
 obtain⟨a2,ea2,qa2⟩:=ae ((E.I F bY)+(1))
 omega
def azK:=fb ([fI]) (.not Jn)<|aq fun F p0=>by
 have:=@aO F U4 U5 eh ez cH
 try simp only[aa]at *
 grind
def aDR:=fb ([fI]) U27<|aq fun F p0=>by
 have:=@aO F U4 U5 eh ez cH
 try simp only[aa]at *
 grind
def avA:=fb ([fI]) (.not (cmp .lss (.int 20) eh))<|aq fun F p0=>by
 have:=@aO F U4 U5 eh ez cH
 try simp only[aa]at *
 grind
def aqd:=fb ([fI]) (.not (cmp .lss (.int 20) ez))<|aq fun F p0=>by
 have:=@aO F U4 U5 eh ez cH
 try simp only[aa]at *
 grind
def ao4:=fb ([fI]) (.not (cmp .lss (.int 20) cH))<|aq fun F p0=>by
 have:=@aO F U4 U5 eh ez cH
 try simp only[aa]at *
 grind
def aAC:=fb JF IB<|af fun F p0 p1 p2=>by
 try simp only[aa,ab]at *
 obtain⟨a2,ea2,qa2⟩:=ae ((E.I F bY)+(1))
 omega
def arn:=fb ([od]) IB<|aq fun F p0=>by
 try simp only[aa,ab]at *
 obtain⟨a2,ea2,qa2⟩:=ae ((E.I F bY)+(1))
 omega
def aX5:=fb ([ou]) IB<|aq fun F p0=>by
 try simp only[aa,ab]at *
 obtain⟨a2,ea2,qa2⟩:=ae ((E.I F bY)+(1))
 omega
def aT3:=fb U71 IB<|af fun F p0 p1 p2=>by
 try simp only[aa,ab]at *
 obtain⟨a2,ea2,qa2⟩:=ae ((E.I F bY)+(1))
 omega
def aXz:=fb ((.not fv)::xb::CR) (fn 176 (pr zw (pr yz (pr ym (pr yL (pr yV (pr (fn 10 (.int 0)) (pr (.int 4) xk))))))))<|af fun F p0 p1 p2=>by
 have hr2:(E.I F _=E.I F _)->(E.I F _=E.I F _)->E.B F (fn _ (pr _ (pr _ (pr _ (pr _ (pr _ (pr _ (pr (.int 4) (pr (.int 0) _)))))))))=true:=fun s0 s1=>Za p2 s0 s1
 try simp only[aa]at *
 grind
def aPd:=fb ([(.not fv),wo,xb]) (fn 176 (pr zw (pr yz (pr ym (pr yL (pr yV (pr (var 31) (pr (.int 4) xk))))))))<|af fun F p0 p1 p2=>by
 have hr2:(E.I F _=E.I F _)->(E.I F _=E.I F _)->E.B F (fn _ (pr _ (pr _ (pr _ (pr _ (pr _ (pr _ (pr (.int 4) (pr (.int 0) _)))))))))=true:=fun s0 s1=>Za p1 s0 s1
 try simp only[aa]at *
 grind
def aK7:=fb JF Ge<|af fun F p0 p1 p2=>by
 try simp only[aa,ab]at *
 obtain⟨a2,ea2,qa2⟩:=ae ((E.I F bY)+(1))
 omega
def aEB:=fb ([od]) Ge<|aq fun F p0=>by
 try simp only[aa,ab]at *
 obtain⟨a2,ea2,qa2⟩:=ae ((E.I F bY)+(1))
 omega
def ayt:=fb ([ou]) Ge<|aq fun F p0=>by
 try simp only[aa,ab]at *
 obtain⟨a2,ea2,qa2⟩:=ae ((E.I F bY)+(1))
 omega
def aET:=fb (fv::CO) Ge<|ak fun F p0 p1=>by
 try simp only[aa,ab]at *
 obtain⟨a2,ea2,qa2⟩:=ae ((E.I F bY)+(1))
 omega
def aJY:=fb U94 (.not (cmp .lss (.ar .add .i64 kL (.int 1)) (.int 0)))<|af fun F p0 p1 p2=>by
 have:=@aO F U4 U5 eh ez cH
 try simp only[aa,ab]at *
 obtain⟨a6,ea6,qa6⟩:=ae ((E.I F kL)+(1))
 grind
def aqr:=fb ((.not oK)::S1::an3) (fn 183 (pr xW (pr yA (pr xy (pr yJ (pr (fn 10 (.int 0)) Vx))))))<|af fun F p0 p1 p2=>by
 have hr2:(E.I F _=E.I F _)->E.B F (fn _ (pr _ (pr _ (pr _ (pr _ (pr _ (pr _ (pr _ (pr _ (pr _ (pr cH _)))))))))))=true:=fun s0=>auK p2 s0
 try simp only[aa]at *
 grind
def aom:=fb YF (.not (cmp .lss (.int 2147483648) BI))<|ak fun F p0 p1=>by
 try simp only[aa]at *
 grind
def aLs:=fb an5 (.not (cmp .lss cH (.ar .add .i64 kL (.int 1))))<|aj fun F p0 p1 p2 p3=>by
 try simp only[aa,ab]at *
 obtain⟨a6,ea6,qa6⟩:=ae ((E.I F kL)+(1))
 omega
def aJ5:=fb ([(.not oK),adJ,S1]) (fn 183 (pr xW (pr yA (pr xy (pr yJ (pr (fn 40 BP) Vx))))))<|af fun F p0 p1 p2=>by
 have hr2:(E.I F _=E.I F _)->E.B F (fn _ (pr _ (pr _ (pr _ (pr _ (pr _ (pr _ (pr _ (pr _ (pr _ (pr cH _)))))))))))=true:=fun s0=>aMT p1 s0
 try simp only[aa]at *
 grind
def apb:=fb JF GM<|af fun F p0 p1 p2=>by
 try simp only[aa,ab]at *
 obtain⟨a2,ea2,qa2⟩:=ae ((E.I F bY)+(1))
 omega
def atU:=fb ([od]) GM<|aq fun F p0=>by
 try simp only[aa,ab]at *
 obtain⟨a2,ea2,qa2⟩:=ae ((E.I F bY)+(1))
 omega
def aoo:=fb ([ou]) GM<|aq fun F p0=>by
 try simp only[aa,ab]at *
 obtain⟨a2,ea2,qa2⟩:=ae ((E.I F bY)+(1))
 omega
def aLz:=fb U71 GM<|af fun F p0 p1 p2=>by
 try simp only[aa,ab]at *
 obtain⟨a2,ea2,qa2⟩:=ae ((E.I F bY)+(1))
 omega
def aKX:=fb (td::(fn 171 Ro)::CR) nx<|af fun F p0 p1 p2=>by
 have hr2:(E.I F _=0)->E.B F (fn _ (pr _ (pr cH _)))=true:=fun s0=>aiN p2 p1 s0
 try simp only[aa]at *
 grind
def aEZ:=fb (fv::td::(fn 170 (pr jr (pr jv (pr jN (pr ji (pr jy (pr qi Ro)))))))::qn) sb<|aB fun F p0 p1 p2 p3 p4=>by
 have:=@am F bY (.int 1)
 have hr3:(E.I F _=0)->(E.I F _=E.I F _+1)->E.B F (fn _ (pr _ (pr _ (pr _ (pr _ (pr _ (pr _ (pr (.ar .add .i64 bY (.int 1)) _))))))))=true:=fun s0 s1=>Ru p4 p2 s0 s1
 try simp only[aa]at *
 grind
def aWC:=fb (fv::td::(fn 170 (pr jr (pr jv (pr jN (pr ji (pr jy (pr (fn 10 (.int 0)) Ro)))))))::qn) IQ<|aB fun F p0 p1 p2 p3 p4=>by
 have:=@am F bY (.int 1)
 have hr3:(E.I F _=0)->(E.I F _=E.I F _+1)->E.B F (fn _ (pr _ (pr _ (pr _ (pr _ (pr _ (pr _ (pr (.ar .add .i64 bY (.int 1)) _))))))))=true:=fun s0 s1=>Ru p4 p2 s0 s1
 try simp only[aa]at *
 grind
def ar8:=fb (od::(fn 171 Lx)::CR) nx<|af fun F p0 p1 p2=>by
 have hr2:(E.I F _=1)->E.B F (fn _ (pr _ (pr cH _)))=true:=fun s0=>acA p2 p1 s0
 try simp only[aa]at *
 grind
def aHb:=fb (fv::od::(fn 170 (pr jr (pr jv (pr jN (pr ji (pr jy (pr qi Lx)))))))::qn) sb<|aB fun F p0 p1 p2 p3 p4=>by
 have:=@am F bY (.int 1)
 have hr3:(E.I F _=1)->(E.I F _=E.I F _+1)->E.B F (fn _ (pr _ (pr _ (pr _ (pr _ (pr _ (pr _ (pr (.ar .add .i64 bY (.int 1)) _))))))))=true:=fun s0 s1=>Qq p4 p2 s0 s1
 try simp only[aa]at *
 grind
def aBU:=fb (fv::od::(fn 170 (pr jr (pr jv (pr jN (pr ji (pr jy (pr (fn 10 (.int 0)) Lx)))))))::qn) IQ<|aB fun F p0 p1 p2 p3 p4=>by
 have:=@am F bY (.int 1)
 have hr3:(E.I F _=1)->(E.I F _=E.I F _+1)->E.B F (fn _ (pr _ (pr _ (pr _ (pr _ (pr _ (pr _ (pr (.ar .add .i64 bY (.int 1)) _))))))))=true:=fun s0 s1=>Qq p4 p2 s0 s1
 try simp only[aa]at *
 grind
def asV:=fb (ou::(fn 171 Lp)::CR) nx<|af fun F p0 p1 p2=>by
 have hr2:(E.I F _=2)->E.B F (fn _ (pr _ (pr cH _)))=true:=fun s0=>afM p2 p1 s0
 try simp only[aa]at *
 grind
def azp:=fb (fv::ou::(fn 170 (pr jr (pr jv (pr jN (pr ji (pr jy (pr qi Lp)))))))::qn) sb<|aB fun F p0 p1 p2 p3 p4=>by
 have:=@am F bY (.int 1)
 have hr3:(E.I F _=2)->(E.I F _=E.I F _+1)->E.B F (fn _ (pr _ (pr _ (pr _ (pr _ (pr _ (pr _ (pr (.ar .add .i64 bY (.int 1)) _))))))))=true:=fun s0 s1=>Oe p4 p2 s0 s1
 try simp only[aa]at *
 grind
def aWD:=fb (fv::ou::(fn 170 (pr jr (pr jv (pr jN (pr ji (pr jy (pr (fn 10 (.int 0)) Lp)))))))::qn) IQ<|aB fun F p0 p1 p2 p3 p4=>by
 have:=@am F bY (.int 1)
 have hr3:(E.I F _=2)->(E.I F _=E.I F _+1)->E.B F (fn _ (pr _ (pr _ (pr _ (pr _ (pr _ (pr _ (pr (.ar .add .i64 bY (.int 1)) _))))))))=true:=fun s0 s1=>Oe p4 p2 s0 s1
 try simp only[aa]at *
 grind
def aH2:=fb (fv::ye::zd::yG::(fn 171 Pz)::xb::qn) nx<|ba fun F p0 p1 p2 p3 p4 p5 p6 p7=>by
 have hr2:(E.I F _=3)->E.B F (fn _ (pr _ (pr cH _)))=true:=fun s0=>alJ p7 p4 s0
 try simp only[aa]at *
 grind
def aqL:=fb (fv::ye::zd::yG::(fn 170 (pr jr (pr jv (pr jN (pr ji (pr jy (pr qi Pz)))))))::xb::qn) sb<|ba fun F p0 p1 p2 p3 p4 p5 p6 p7=>by
 have:=@am F bY (.int 1)
 have hr3:(E.I F _=3)->(E.I F _=E.I F _+1)->E.B F (fn _ (pr _ (pr _ (pr _ (pr _ (pr _ (pr _ (pr (.ar .add .i64 bY (.int 1)) _))))))))=true:=fun s0 s1=>Rq p7 p4 s0 s1
 try simp only[aa]at *
 grind
def aRN:=fb (fv::ye::zd::yG::(fn 170 (pr jr (pr jv (pr jN (pr ji (pr jy (pr (fn 10 (.int 0)) Pz)))))))::xb::qn) IQ<|ba fun F p0 p1 p2 p3 p4 p5 p6 p7=>by
 have:=@am F bY (.int 1)
 have hr3:(E.I F _=3)->(E.I F _=E.I F _+1)->E.B F (fn _ (pr _ (pr _ (pr _ (pr _ (pr _ (pr _ (pr (.ar .add .i64 bY (.int 1)) _))))))))=true:=fun s0 s1=>Rq p7 p4 s0 s1
 try simp only[aa]at *
 grind
def azv:=fb (oK::(fn 171 NH)::aoe) nx<|aj fun F p0 p1 p2 p3=>by
 have hr2:(0<=E.I F _)->(E.I F _<E.I F _)->E.B F (fn _ (pr _ (pr cH _)))=true:=fun s0 s1=>ah6 p3 p1 s0 s1
 try simp only[aa]at *
 grind
def ayw:=fb (oK::(fn 170 (pr Br (pr zC (pr Cr (pr Ao (pr zI (pr (var 84) NH)))))))::Xz) aba<|aB fun F p0 p1 p2 p3 p4=>by
 have:=@am F kL (.int 1)
 have:=@aO F U4 U5 eh ez cH
 have hr3:(0<=E.I F _)->(E.I F _=E.I F _+1)->E.B F (fn _ (pr _ (pr _ (pr _ (pr _ (pr _ (pr _ (pr _ (pr (.ar .add .i64 kL (.int 1)) _)))))))))=true:=fun s0 s1=>Mm p4 p1 s0 s1
 try simp only[aa]at *
 grind
def aB4:=fb (oK::(fn 170 (pr Br (pr zC (pr Cr (pr Ao (pr zI (pr (fn 10 (.int 0)) NH)))))))::Xz) (fn 176 (pr Br (pr zC (pr Cr (pr Ao (pr zI (pr (fn 10 (.int 0)) Ud)))))))<|aB fun F p0 p1 p2 p3 p4=>by
 have:=@am F kL (.int 1)
 have:=@aO F U4 U5 eh ez cH
 have hr3:(0<=E.I F _)->(E.I F _=E.I F _+1)->E.B F (fn _ (pr _ (pr _ (pr _ (pr _ (pr _ (pr _ (pr _ (pr (.ar .add .i64 kL (.int 1)) _)))))))))=true:=fun s0 s1=>Mm p4 p1 s0 s1
 try simp only[aa]at *
 grind
def aDt:=fb (oK::(fn 171 anT)::ak0) nx<|aj fun F p0 p1 p2 p3=>by
 have hr2:(0<=E.I F _)->(E.I F _<E.I F _)->E.B F (fn _ (pr _ (pr cH _)))=true:=fun s0 s1=>ah6 p2 p1 s0 s1
 try simp only[aa]at *
 grind
def aCo:=fb (oK::(fn 170 (pr Br (pr zC (pr Cr (pr Ao (pr zI (pr (var 84) anT)))))))::fI::ak0) aba<|aB fun F p0 p1 p2 p3 p4=>by
 have:=@am F kL (.int 1)
 have:=@aO F U4 U5 eh ez cH
 have hr3:(0<=E.I F _)->(E.I F _=E.I F _+1)->E.B F (fn _ (pr _ (pr _ (pr _ (pr _ (pr _ (pr _ (pr _ (pr (.ar .add .i64 kL (.int 1)) _)))))))))=true:=fun s0 s1=>Mm p3 p1 s0 s1
 try simp only[aa]at *
 grind
def as0:=fb YF (.not (cmp .lss (.int 30) BI))<|ak fun F p0 p1=>by
 try simp only[aa]at *
 grind
def azQ:=fb U94 (cmp .lss (fn 7 (pr cH (.ar .add .i64 kL (.int 1)))) (fn 7 (pr cH kL)))<|af fun F p0 p1 p2=>by
 have:=@aO F U4 U5 eh ez cH
 try simp only[aa,ab]at *
 obtain⟨a3,ea3,qa3⟩:=ae ((E.I F kL)+(1))
 grind
def aG7:=fb ([td,(fn 171 Us),wo]) nx<|af fun F p0 p1 p2=>by
 have hr2:(E.I F _=0)->E.B F (fn _ (pr _ (pr cH _)))=true:=fun s0=>aiN p2 p1 s0
 try simp only[aa]at *
 grind
def aP2:=fb (fv::td::(fn 170 (pr jr (pr jv (pr jN (pr ji (pr jy (pr qi Us)))))))::Nh) sb<|aB fun F p0 p1 p2 p3 p4=>by
 have:=@am F bY (.int 1)
 have hr3:(E.I F _=0)->(E.I F _=E.I F _+1)->E.B F (fn _ (pr _ (pr _ (pr _ (pr _ (pr _ (pr _ (pr (.ar .add .i64 bY (.int 1)) _))))))))=true:=fun s0 s1=>Ru p3 p2 s0 s1
 try simp only[aa]at *
 grind
def aSL:=fb ([od,(fn 171 amM),wo]) nx<|af fun F p0 p1 p2=>by
 have hr2:(E.I F _=1)->E.B F (fn _ (pr _ (pr cH _)))=true:=fun s0=>acA p2 p1 s0
 try simp only[aa]at *
 grind
def aHM:=fb (fv::od::(fn 170 (pr jr (pr jv (pr jN (pr ji (pr jy (pr qi amM)))))))::Nh) sb<|aB fun F p0 p1 p2 p3 p4=>by
 have:=@am F bY (.int 1)
 have hr3:(E.I F _=1)->(E.I F _=E.I F _+1)->E.B F (fn _ (pr _ (pr _ (pr _ (pr _ (pr _ (pr _ (pr (.ar .add .i64 bY (.int 1)) _))))))))=true:=fun s0 s1=>Qq p3 p2 s0 s1
 try simp only[aa]at *
 grind
def azM:=fb ([ou,(fn 171 anI),wo]) nx<|af fun F p0 p1 p2=>by
 have hr2:(E.I F _=2)->E.B F (fn _ (pr _ (pr cH _)))=true:=fun s0=>afM p2 p1 s0
 try simp only[aa]at *
 grind
def aJs:=fb (fv::ou::(fn 170 (pr jr (pr jv (pr jN (pr ji (pr jy (pr qi anI)))))))::Nh) sb<|aB fun F p0 p1 p2 p3 p4=>by
 have:=@am F bY (.int 1)
 have hr3:(E.I F _=2)->(E.I F _=E.I F _+1)->E.B F (fn _ (pr _ (pr _ (pr _ (pr _ (pr _ (pr _ (pr (.ar .add .i64 bY (.int 1)) _))))))))=true:=fun s0 s1=>Oe p3 p2 s0 s1
 try simp only[aa]at *
 grind
def auZ:=fb (fv::ye::zd::yG::(fn 171 akp)::VR) nx<|ba fun F p0 p1 p2 p3 p4 p5 p6 p7=>by
 have hr2:(E.I F _=3)->E.B F (fn _ (pr _ (pr cH _)))=true:=fun s0=>alJ p5 p4 s0
 try simp only[aa]at *
 grind
def aD6:=fb (fv::ye::zd::yG::(fn 170 (pr jr (pr jv (pr jN (pr ji (pr jy (pr qi akp)))))))::VR) sb<|ba fun F p0 p1 p2 p3 p4 p5 p6 p7=>by
 have:=@am F bY (.int 1)
 have hr3:(E.I F _=3)->(E.I F _=E.I F _+1)->E.B F (fn _ (pr _ (pr _ (pr _ (pr _ (pr _ (pr _ (pr (.ar .add .i64 bY (.int 1)) _))))))))=true:=fun s0 s1=>Rq p5 p4 s0 s1
 try simp only[aa]at *
 grind
def azI:=fb ([(cmp .eql (fn 0 BP) BI)]) (cmp .eql (fn 0 (fn 40 BP)) BI)<|aq fun F p0=>by
 simp_all[aP1]
def awr:=fb an5 (.not (cmp .lss (fn 7 (pr cH (.ar .add .i64 kL (.int 1)))) (.int 0)))<|aj fun F p0 p1 p2 p3=>by
 try simp only[aa,ab]at *
 obtain⟨a3,ea3,qa3⟩:=ae ((E.I F kL)+(1))
 omega
def p59:List Fa:=[fK,aID,azT,awA,aFy,aBr,aTk,aAB,awk,aRp,arJ,aCA,aPF,aPJ,aJv,aJD,aSY,aop,al3,aOe,az8,aUd,aBF,azK,aDR,avA,aqd,ao4,aAC,arn,aX5,aT3,aXz,aPd,aK7,aEB,ayt,aET,aJY,aqr,aom,aLs,aJ5,apb,atU,aoo,aLz,aKX,aEZ,aWC,ar8,aHb,aBU,asV,azp,aWD,aH2,aqL,aRN,azv,ayw,aB4,aDt,aCo,as0,azQ,aG7,aP2,aSL,aHM,azM,aJs,auZ,aD6,azI,awr]
theorem aBI:aN Try.prog (aZ (aE7)):=sc p59 (aLN) ae1 ([]) (by kernel_rfl) (by kernel_rfl)
def ad2:Nl:=nc aBI ae1
end
end Go.Proofs.Ytnnbmcfabojjjaa.payPlans
