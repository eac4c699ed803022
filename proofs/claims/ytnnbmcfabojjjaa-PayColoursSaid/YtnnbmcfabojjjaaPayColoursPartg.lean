/-
  PayColours: contracts of functions, part 7.
-/
import Derived.Test.YtnnbmcfabojjjaaRows
import Derived.Test.YtnnbmcfabojjjaaNat
import Derived.WalkKit
import Derived.ProofKit
import Derived.OpenShut
import Derived.ChangeOld
import Derived.Below
import Derived.KernelRfl
import Derived.Lib.SmallJoins
import Derived.Laws.IdiomArrays
import Derived.Test.YtnnbmcfabojjjaaPayColoursPartf
namespace Go.Proofs.Ytnnbmcfabojjjaa.payColours
open Go.ChangeShapes Go.WideShapes Go.ChangeAt Go.RowKit
open Go.SX
open Go.SX.E (fn pr cmp var)
set_option linter.unusedVariables false
set_option linter.unusedSimpArgs false
set_option maxRecDepth 100000
noncomputable section
abbrev N0:E:=var 0
abbrev N1:E:=cmp .lss N0 (.int 0)
abbrev N2:E:=var 1
abbrev N3:E:=var 2
abbrev N4:E:=var 3
abbrev N5:E:=var 4
abbrev N6:E:=pr N3 (pr N4 N5)
abbrev N7:E:=pr N2 N6
abbrev N8:E:=pr N0 N7
abbrev N9:E:=fn 146 N8
abbrev od:E:=.iff (.bool false) N9
abbrev nF:E:=.not N1
abbrev Sw:E:=cmp .lss (.int 20) N0
abbrev oG:E:=.not Sw
abbrev N14:E:=cmp .lss N2 (.int 0)
abbrev qx:E:=.not N14
abbrev N16:E:=cmp .lss (.int 20) N2
abbrev sP:E:=.not N16
abbrev N18:E:=cmp .lss N3 (.int 0)
abbrev qi:E:=.not N18
abbrev Vn:E:=cmp .lss (.int 20) N3
abbrev Ei:E:=.not Vn
abbrev Rb:E:=cmp .lss N4 (.int 0)
abbrev DK:E:=.not Rb
abbrev BJ:E:=cmp .lss (.int 20) N4
abbrev JZ:E:=cmp .lss N5 (.int 0)
abbrev N26:E:=cmp .lss (.int 20) N5
abbrev RB:E:=.not N26
abbrev pv:E:=var 9
abbrev Cx:E:=fn 145 (pr N2 N3)
abbrev qI:E:=.iff pv Cx
abbrev ef:E:=var 5
abbrev d9:E:=var 6
abbrev cw:E:=var 7
abbrev fu:E:=fn 146 (pr N4 (pr N5 (pr ef (pr d9 cw))))
abbrev N35:E:=cmp .eql N3 (.int 0)
abbrev I2:E:=.not N35
abbrev N37:=[pv,I2]
abbrev KQ:=qI::N37
abbrev N39:E:=cmp .eql N3 (.int 1)
abbrev N40:E:=pr N3 (fn 9 (pr (fn 1 (pr N2 (.int 0))) (.int 12)))
abbrev N41:E:=pr N2 N40
abbrev N42:E:=pr N0 N41
abbrev N43:E:=pr (var 10) N42
abbrev N44:E:=fn 143 N43
abbrev SW:=[N44]
abbrev N46:E:=pr N3 (.int 0)
abbrev N47:E:=pr N2 N46
abbrev RI:E:=pr N0 N47
abbrev C9:E:=pr N4 (pr N5 (pr ef (pr d9 RI)))
abbrev xH:E:=pr (.int 0) C9
abbrev N51:E:=pr (fn 10 (.int 0)) (pr (.int 0) xH)
abbrev N52:E:=pr (var 10) N51
abbrev bo:E:=var 34
abbrev fj:E:=cmp .lss bo (.int 4)
abbrev qT:E:=cmp .eql bo (.int 0)
abbrev N56:E:=cmp .lss bo (.int 0)
abbrev Pr:E:=.not N56
abbrev wS:=[Pr]
abbrev N59:=qT::wS
abbrev DY:=fj::N59
abbrev Fr:E:=.not (cmp .lss (.ar .add .i64 bo (.int 1)) (.int 0))
abbrev lA:E:=cmp .eql bo (.int 1)
abbrev lP:E:=cmp .eql bo (.int 2)
abbrev sf:E:=.not qT
abbrev sZ:E:=.not lA
abbrev ul:E:=.not lP
abbrev B3:E:=.not (cmp .lss (.int 4) (.ar .add .i64 bo (.int 1)))
abbrev uj:E:=.not (cmp .lss (.int 4) bo)
abbrev N69:=uj::wS
abbrev N70:=fj::N69
abbrev uL:E:=var 24
abbrev sg:E:=var 25
abbrev sC:E:=var 26
abbrev sN:E:=var 27
abbrev tP:E:=var 28
abbrev Uh:E:=pr bo xH
abbrev N77:E:=pr (fn 10 (.int 0)) Uh
abbrev N78:E:=pr tP N77
abbrev N79:E:=pr sN N78
abbrev N80:E:=pr sC N79
abbrev N81:E:=pr sg N80
abbrev N82:E:=pr uL N81
abbrev N83:E:=fn 176 N82
abbrev zk:=[N83]
abbrev s7:E:=fn 176 (pr uL (pr sg (pr sC (pr sN (pr tP (pr (var 31) Uh))))))
abbrev AR:E:=cmp .lss (fn 7 (pr (.int 4) (.ar .add .i64 bo (.int 1)))) (fn 7 (pr (.int 4) bo))
abbrev fo:E:=var 74
abbrev mm:E:=cmp .lss fo cw
abbrev N89:E:=cmp .lss fo (.int 0)
abbrev OD:E:=.not N89
abbrev Gc:=[OD]
abbrev N92:=mm::Gc
abbrev Og:=fu::N92
abbrev N94:E:=cmp .lss cw fo
abbrev IU:E:=.not N94
abbrev sy:E:=var 64
abbrev uK:E:=var 65
abbrev ua:E:=var 66
abbrev vq:E:=var 67
abbrev Bo:E:=var 68
abbrev aq8:E:=pr fo C9
abbrev aeC:E:=pr (.int 4) aq8
abbrev avO:E:=pr (fn 10 (.int 0)) aeC
abbrev aua:E:=pr Bo avO
abbrev aEt:E:=pr vq aua
abbrev arl:E:=pr ua aEt
abbrev afW:E:=pr uK arl
abbrev apF:E:=pr sy afW
abbrev awM:E:=fn 176 apF
abbrev ad7:=[awM]
abbrev ajl:E:=pr cw RI
abbrev ahB:E:=pr d9 ajl
abbrev anW:E:=pr ef ahB
abbrev aof:E:=pr N5 anW
abbrev abI:E:=pr N4 aof
abbrev xW:E:=var 72
abbrev aBK:E:=cmp .lss (.int 30) (fn 6 (pr (var 69) xW))
abbrev aoR:E:=.not aBK
abbrev aqq:E:=cmp .lss (var 69) (.int 0)
abbrev amM:E:=.not aqq
abbrev aty:=[amM]
abbrev aaL:=aoR::aty
abbrev aCX:=IU::Gc
abbrev aGn:=mm::aCX
abbrev aea:=fu::aGn
abbrev vK:E:=var 71
abbrev alk:E:=pr vK aeC
abbrev aDP:E:=pr Bo alk
abbrev art:E:=pr vq aDP
abbrev aF2:E:=pr ua art
abbrev aFI:E:=pr uK aF2
abbrev aB1:E:=pr sy aFI
abbrev abn:E:=fn 176 aB1
abbrev DH:E:=.not (cmp .lss (fn 7 (pr (.int 4) (.ar .add .i64 bo (.int 1)))) (.int 0))
abbrev Ud:E:=pr (fn 10 (.int 0)) (.int 0)
abbrev DO:E:=pr uL (pr sg (pr sC (pr sN (pr tP Ud))))
abbrev I4:E:=pr bo (pr N4 DO)
abbrev lK:E:=fn 177 (pr (.int 4) (pr cw C9))
abbrev im:E:=var 35
abbrev iJ:E:=var 36
abbrev iI:E:=var 37
abbrev iD:E:=var 38
abbrev ip:E:=var 39
abbrev ng:E:=var 42
abbrev nH:=Pr::zk
abbrev OQ:E:=pr (.ar .add .i64 bo (.int 1)) xH
abbrev oR:E:=fn 176 (pr im (pr iJ (pr iI (pr iD (pr ip (pr ng OQ))))))
abbrev Bw:E:=fn 176 (pr im (pr iJ (pr iI (pr iD (pr ip (pr (fn 10 (.int 0)) OQ))))))
abbrev GX:E:=pr bo (pr N5 DO)
abbrev Md:E:=pr bo (pr ef DO)
abbrev FO:E:=pr bo (pr d9 DO)
abbrev Lm:E:=pr (.int 4) (pr (.int 1) (pr sy (pr uK (pr ua (pr vq (pr Bo Ud))))))
abbrev Un:=OD::ad7
abbrev yn:E:=var 77
abbrev wP:E:=var 78
abbrev xu:E:=var 79
abbrev xS:E:=var 80
abbrev y8:E:=var 81
abbrev R8:=fu::Un
abbrev aBH:E:=pr (.ar .add .i64 fo (.int 1)) C9
abbrev Q8:E:=pr (.int 4) aBH
abbrev aBu:E:=pr (var 84) Q8
abbrev ahq:E:=pr y8 aBu
abbrev am5:E:=pr xS ahq
abbrev apo:E:=pr xu am5
abbrev am7:E:=pr wP apo
abbrev anl:E:=pr yn am7
abbrev YX:E:=fn 176 anl
abbrev arZ:E:=pr Bo (pr vK (.int 0))
abbrev aC8:E:=pr vq arZ
abbrev aoB:E:=pr ua aC8
abbrev aGM:E:=pr uK aoB
abbrev ai7:E:=pr sy aGM
abbrev aGu:E:=pr (.int 1) ai7
abbrev VH:E:=pr (.int 4) aGu
abbrev Oy:=abn::Gc
abbrev CU:E:=pr uL (pr sg (pr sC (pr sN (pr tP (pr (var 31) (.int 0))))))
abbrev Yb:E:=pr bo (pr N4 CU)
abbrev IR:=s7::wS
abbrev SS:E:=pr bo (pr N5 CU)
abbrev RC:E:=pr bo (pr ef CU)
abbrev Xc:E:=pr bo (pr d9 CU)
abbrev ab9:=s7::N69
def aqe:=fb ([N1]) od<|az fun F p0=>by
 have:=@bP F N0 N2 N3 N4 N5
 try simp only[ab]at *
 grind
def ahg:=fb ([nF,oG,N14]) od<|am fun F p0 p1 p2=>by
 have:=@bP F N0 N2 N3 N4 N5
 try simp only[ab]at *
 grind
def aEU:=fb ([nF,oG,qx,sP,N18]) od<|aT fun F p0 p1 p2 p3 p4=>by
 have:=@bP F N0 N2 N3 N4 N5
 try simp only[ab]at *
 grind
def akB:=fb ([nF,oG,qx,sP,qi,Ei,Rb]) od<|ck fun F p0 p1 p2 p3 p4 p5 p6=>by
 have:=@bP F N0 N2 N3 N4 N5
 try simp only[ab]at *
 grind
def aqu:=fb ([nF,oG,qx,sP,qi,Ei,DK,(.not BJ),(.not JZ)]) (.iff RB N9)<|dK fun F p0 p1 p2 p3 p4 p5 p6 p7 p8=>by
 have:=@bP F N0 N2 N3 N4 N5
 try simp only[ab]at *
 grind
def aCp:=fb ([nF,oG,qx,sP,qi,Ei,DK,(.not BJ),JZ]) od<|dK fun F p0 p1 p2 p3 p4 p5 p6 p7 p8=>by
 have:=@bP F N0 N2 N3 N4 N5
 try simp only[ab]at *
 grind
def alo:=fb ([nF,oG,qx,sP,qi,Ei,DK,BJ]) od<|cU fun F p0 p1 p2 p3 p4 p5 p6 p7=>by
 have:=@bP F N0 N2 N3 N4 N5
 try simp only[ab]at *
 grind
def aiA:=fb ([nF,oG,qx,sP,qi,Vn]) od<|bU fun F p0 p1 p2 p3 p4 p5=>by
 have:=@bP F N0 N2 N3 N4 N5
 try simp only[ab]at *
 grind
def aA7:=fb ([nF,oG,qx,N16]) od<|aF fun F p0 p1 p2 p3=>by
 have:=@bP F N0 N2 N3 N4 N5
 try simp only[ab]at *
 grind
def aAG:=fb ([nF,Sw]) od<|au fun F p0 p1=>by
 have:=@bP F N0 N2 N3 N4 N5
 try simp only[ab]at *
 grind
def p47:List Fa:=[iR,aqe,ahg,aEU,akB,aqu,aCp,alo,aiA,aA7,aAG]
theorem agA:aU Try.prog (bn (ajH)):=sc p47 ([]) adw ([]) (by kernel_rfl) (by kernel_rfl)
def adh:Nl:=nc agA adw
def aEb:=fb ([qI,(.not pv)]) (.not (.and Cx fu))<|au fun F p0 p1=>by
 simp_all
def agC:=fb KQ N39<|am fun F p0 p1 p2=>by
 have:=@ky F N3 N2
 try simp only[ab]at *
 grind
def ayB:=fb ([qI,pv,I2,(.not N39)]) qi<|aF fun F p0 p1 p2 p3=>by
 have:=@ky F N3 N2
 try simp only[ab]at *
 grind
def asI:=fb ([(.iff (var 8) fu),(.not (var 8))]) (.not (.and Cx fu))<|au fun F p0 p1=>by
 simp_all
def aF3:=fb KQ qi<|am fun F p0 p1 p2=>by
 have:=@ky F N3 N2
 try simp only[ab]at *
 grind
def arg:=fb KQ (.not (cmp .lss (.int 1) N3))<|am fun F p0 p1 p2=>by
 have:=@ky F N3 N2
 try simp only[ab]at *
 grind
def ajF:=fb ([qI,pv]) Cx<|au fun F p0 p1=>by
 simp_all
def aAX:=fb ([(.iff (var 8) fu),(var 8)]) fu<|au fun F p0 p1=>by
 simp_all
def aii:=fb ([(fn 117 N2),(.not (cmp .lss (fn 9 (pr (fn 1 (pr N2 (.int 0))) (.int 12))) (var 11)))]) (.not (cmp .lss (.int 30) (var 11)))<|au fun F p0 p1=>by
 have:=aw p0
 try simp only[ab]at *
 grind
def al0:=fb ([qI,pv]) (fn 188 (pr (fn 1 (pr N2 (.int 16))) (pr (fn 1 (pr N2 (.int 17))) (pr (fn 1 (pr N2 (.int 18))) (pr (fn 1 (pr N2 (.int 19))) (.int 0))))))<|au fun F p0 p1=>by
 have hr0:(E.B F (fn _ (pr _ N3))=true)->E.B F (fn _ (pr _ (pr _ (pr _ (pr (fn 1 (pr N2 _)) _)))))=true:=fun s0=>asq s0
 simp_all
def arw:=fb ([qI,pv]) (fn 188 (pr (fn 1 (pr N2 (.int 2))) (pr (fn 1 (pr N2 (.int 3))) (pr (fn 1 (pr N2 (.int 4))) (pr (fn 1 (pr N2 (.int 5))) (.int 0))))))<|au fun F p0 p1=>by
 have hr0:(E.B F (fn _ (pr _ N3))=true)->E.B F (fn _ (pr _ (pr _ (pr _ (pr (fn 1 (pr N2 _)) _)))))=true:=fun s0=>ajc s0
 simp_all
def av8:=fb (qI::pv::I2::SW) (fn 176 (pr (fn 1 (pr N2 (.int 16))) (pr (fn 1 (pr N2 (.int 17))) (pr (fn 1 (pr N2 (.int 18))) (pr (fn 1 (pr N2 (.int 19))) N52)))))<|aF fun F p0 p1 p2 p3=>by
 have:=@ky F N3 N2
 have hr0:(E.I F _=1)->E.B F (fn _ (pr _ (pr _ (pr _ (pr _ (pr _ (pr _ (pr _ (pr _ (pr N4 (pr N5 (pr ef (pr d9 _)))))))))))))=true:=fun s0=>aAA p3 s0
 try simp only[ab]at *
 grind
def aGl:=fb (N35::SW) (fn 176 (pr (fn 1 (pr N2 (.int 2))) (pr (fn 1 (pr N2 (.int 3))) (pr (fn 1 (pr N2 (.int 4))) (pr (fn 1 (pr N2 (.int 5))) N52)))))<|au fun F p0 p1=>by
 have hr0:(E.I F _=0)->E.B F (fn _ (pr _ (pr _ (pr _ (pr _ (pr _ (pr _ (pr _ (pr _ (pr N4 (pr N5 (pr ef (pr d9 _)))))))))))))=true:=fun s0=>aEo p1 s0
 try simp only[ab]at *
 grind
def akY:=fb ([fu]) DK<|az fun F p0=>by
 have:=@bP F N4 N5 ef d9 cw
 try simp only[ab]at *
 grind
def aq0:=fb ([fu]) (.not JZ)<|az fun F p0=>by
 have:=@bP F N4 N5 ef d9 cw
 try simp only[ab]at *
 grind
def alw:=fb ([fu]) (.not (cmp .lss ef (.int 0)))<|az fun F p0=>by
 have:=@bP F N4 N5 ef d9 cw
 try simp only[ab]at *
 grind
def apG:=fb ([fu]) (.not (cmp .lss d9 (.int 0)))<|az fun F p0=>by
 have:=@bP F N4 N5 ef d9 cw
 try simp only[ab]at *
 grind
def azA:=fb ([fu]) (.not (cmp .lss cw (.int 0)))<|az fun F p0=>by
 have:=@bP F N4 N5 ef d9 cw
 try simp only[ab]at *
 grind
def ajV:=fb DY Fr<|am fun F p0 p1 p2=>by
 try simp only[ab,aj]at *
 obtain⟨a2,ea2,qa2⟩:=ah ((E.I F bo)+(1))
 omega
def auc:=fb ([lA]) Fr<|az fun F p0=>by
 try simp only[ab,aj]at *
 obtain⟨a2,ea2,qa2⟩:=ah ((E.I F bo)+(1))
 omega
def aoh:=fb ([lP]) Fr<|az fun F p0=>by
 try simp only[ab,aj]at *
 obtain⟨a2,ea2,qa2⟩:=ah ((E.I F bo)+(1))
 omega
def aln:=fb (fj::sf::sZ::ul::wS) Fr<|aT fun F p0 p1 p2 p3 p4=>by
 try simp only[ab,aj]at *
 obtain⟨a2,ea2,qa2⟩:=ah ((E.I F bo)+(1))
 omega
def afe:=fb ([fu]) (.not BJ)<|az fun F p0=>by
 have:=@bP F N4 N5 ef d9 cw
 try simp only[ab]at *
 grind
def atr:=fb ([fu]) RB<|az fun F p0=>by
 have:=@bP F N4 N5 ef d9 cw
 try simp only[ab]at *
 grind
def ay6:=fb ([fu]) (.not (cmp .lss (.int 20) ef))<|az fun F p0=>by
 have:=@bP F N4 N5 ef d9 cw
 try simp only[ab]at *
 grind
def ahi:=fb ([fu]) (.not (cmp .lss (.int 20) d9))<|az fun F p0=>by
 have:=@bP F N4 N5 ef d9 cw
 try simp only[ab]at *
 grind
def av0:=fb ([fu]) (.not (cmp .lss (.int 20) cw))<|az fun F p0=>by
 have:=@bP F N4 N5 ef d9 cw
 try simp only[ab]at *
 grind
def aw7:=fb DY B3<|am fun F p0 p1 p2=>by
 try simp only[ab,aj]at *
 obtain⟨a2,ea2,qa2⟩:=ah ((E.I F bo)+(1))
 omega
def awG:=fb ([lA]) B3<|az fun F p0=>by
 try simp only[ab,aj]at *
 obtain⟨a2,ea2,qa2⟩:=ah ((E.I F bo)+(1))
 omega
def at3:=fb ([lP]) B3<|az fun F p0=>by
 try simp only[ab,aj]at *
 obtain⟨a2,ea2,qa2⟩:=ah ((E.I F bo)+(1))
 omega
def ald:=fb N70 B3<|am fun F p0 p1 p2=>by
 try simp only[ab,aj]at *
 obtain⟨a2,ea2,qa2⟩:=ah ((E.I F bo)+(1))
 omega
def aFq:=fb ((.not fj)::uj::zk) (fn 176 (pr uL (pr sg (pr sC (pr sN (pr tP (pr (fn 10 (.int 0)) (pr (.int 4) xH))))))))<|am fun F p0 p1 p2=>by
 have hr2:(E.I F _=E.I F _)->(E.I F _=E.I F _)->E.B F (fn _ (pr _ (pr _ (pr _ (pr _ (pr _ (pr _ (pr (.int 4) (pr (.int 0) _)))))))))=true:=fun s0 s1=>acB p2 s0 s1
 try simp only[ab]at *
 grind
def ajr:=fb ([(.not fj),s7,uj]) (fn 176 (pr uL (pr sg (pr sC (pr sN (pr tP (pr (var 31) (pr (.int 4) xH))))))))<|am fun F p0 p1 p2=>by
 have hr2:(E.I F _=E.I F _)->(E.I F _=E.I F _)->E.B F (fn _ (pr _ (pr _ (pr _ (pr _ (pr _ (pr _ (pr (.int 4) (pr (.int 0) _)))))))))=true:=fun s0 s1=>acB p1 s0 s1
 try simp only[ab]at *
 grind
def agW:=fb DY AR<|am fun F p0 p1 p2=>by
 try simp only[ab,aj]at *
 obtain⟨a2,ea2,qa2⟩:=ah ((E.I F bo)+(1))
 omega
def aG9:=fb ([lA]) AR<|az fun F p0=>by
 try simp only[ab,aj]at *
 obtain⟨a2,ea2,qa2⟩:=ah ((E.I F bo)+(1))
 omega
def asH:=fb ([lP]) AR<|az fun F p0=>by
 try simp only[ab,aj]at *
 obtain⟨a2,ea2,qa2⟩:=ah ((E.I F bo)+(1))
 omega
def ant:=fb (fj::wS) AR<|au fun F p0 p1=>by
 try simp only[ab,aj]at *
 obtain⟨a2,ea2,qa2⟩:=ah ((E.I F bo)+(1))
 omega
def ajX:=fb Og (.not (cmp .lss (.ar .add .i64 fo (.int 1)) (.int 0)))<|am fun F p0 p1 p2=>by
 have:=@bP F N4 N5 ef d9 cw
 try simp only[ab,aj]at *
 obtain⟨a6,ea6,qa6⟩:=ah ((E.I F fo)+(1))
 grind
def asj:=fb ((.not mm)::IU::ad7) (fn 183 (pr sy (pr uK (pr ua (pr vq (pr (fn 10 (.int 0)) abI))))))<|am fun F p0 p1 p2=>by
 have hr2:(E.I F _=E.I F _)->E.B F (fn _ (pr _ (pr _ (pr _ (pr _ (pr _ (pr _ (pr _ (pr _ (pr _ (pr cw _)))))))))))=true:=fun s0=>akS p2 s0
 try simp only[ab]at *
 grind
def arh:=fb aaL (.not (cmp .lss (.int 2147483648) xW))<|au fun F p0 p1=>by
 try simp only[ab]at *
 grind
def agl:=fb aea (.not (cmp .lss cw (.ar .add .i64 fo (.int 1))))<|aF fun F p0 p1 p2 p3=>by
 try simp only[ab,aj]at *
 obtain⟨a6,ea6,qa6⟩:=ah ((E.I F fo)+(1))
 omega
def anK:=fb ([(.not mm),abn,IU]) (fn 183 (pr sy (pr uK (pr ua (pr vq (pr (fn 40 vK) abI))))))<|am fun F p0 p1 p2=>by
 have hr2:(E.I F _=E.I F _)->E.B F (fn _ (pr _ (pr _ (pr _ (pr _ (pr _ (pr _ (pr _ (pr _ (pr _ (pr cw _)))))))))))=true:=fun s0=>av5 p1 s0
 try simp only[ab]at *
 grind
def awD:=fb DY DH<|am fun F p0 p1 p2=>by
 try simp only[ab,aj]at *
 obtain⟨a2,ea2,qa2⟩:=ah ((E.I F bo)+(1))
 omega
def aC7:=fb ([lA]) DH<|az fun F p0=>by
 try simp only[ab,aj]at *
 obtain⟨a2,ea2,qa2⟩:=ah ((E.I F bo)+(1))
 omega
def aj9:=fb ([lP]) DH<|az fun F p0=>by
 try simp only[ab,aj]at *
 obtain⟨a2,ea2,qa2⟩:=ah ((E.I F bo)+(1))
 omega
def auH:=fb N70 DH<|am fun F p0 p1 p2=>by
 try simp only[ab,aj]at *
 obtain⟨a2,ea2,qa2⟩:=ah ((E.I F bo)+(1))
 omega
def avc:=fb (qT::(fn 171 I4)::zk) lK<|am fun F p0 p1 p2=>by
 have hr2:(E.I F _=0)->E.B F (fn _ (pr _ (pr cw _)))=true:=fun s0=>ado p2 p1 s0
 try simp only[ab]at *
 grind
def aDv:=fb (fj::qT::(fn 170 (pr im (pr iJ (pr iI (pr iD (pr ip (pr ng I4)))))))::nH) oR<|aT fun F p0 p1 p2 p3 p4=>by
 have:=@aA F bo (.int 1)
 have hr3:(E.I F _=0)->(E.I F _=E.I F _+1)->E.B F (fn _ (pr _ (pr _ (pr _ (pr _ (pr _ (pr _ (pr (.ar .add .i64 bo (.int 1)) _))))))))=true:=fun s0 s1=>Gn p4 p2 s0 s1
 try simp only[ab]at *
 grind
def aAY:=fb (fj::qT::(fn 170 (pr im (pr iJ (pr iI (pr iD (pr ip (pr (fn 10 (.int 0)) I4)))))))::nH) Bw<|aT fun F p0 p1 p2 p3 p4=>by
 have:=@aA F bo (.int 1)
 have hr3:(E.I F _=0)->(E.I F _=E.I F _+1)->E.B F (fn _ (pr _ (pr _ (pr _ (pr _ (pr _ (pr _ (pr (.ar .add .i64 bo (.int 1)) _))))))))=true:=fun s0 s1=>Gn p4 p2 s0 s1
 try simp only[ab]at *
 grind
def alI:=fb (lA::(fn 171 GX)::zk) lK<|am fun F p0 p1 p2=>by
 have hr2:(E.I F _=1)->E.B F (fn _ (pr _ (pr cw _)))=true:=fun s0=>NX p2 p1 s0
 try simp only[ab]at *
 grind
def awk:=fb (fj::lA::(fn 170 (pr im (pr iJ (pr iI (pr iD (pr ip (pr ng GX)))))))::nH) oR<|aT fun F p0 p1 p2 p3 p4=>by
 have:=@aA F bo (.int 1)
 have hr3:(E.I F _=1)->(E.I F _=E.I F _+1)->E.B F (fn _ (pr _ (pr _ (pr _ (pr _ (pr _ (pr _ (pr (.ar .add .i64 bo (.int 1)) _))))))))=true:=fun s0 s1=>JM p4 p2 s0 s1
 try simp only[ab]at *
 grind
def aCV:=fb (fj::lA::(fn 170 (pr im (pr iJ (pr iI (pr iD (pr ip (pr (fn 10 (.int 0)) GX)))))))::nH) Bw<|aT fun F p0 p1 p2 p3 p4=>by
 have:=@aA F bo (.int 1)
 have hr3:(E.I F _=1)->(E.I F _=E.I F _+1)->E.B F (fn _ (pr _ (pr _ (pr _ (pr _ (pr _ (pr _ (pr (.ar .add .i64 bo (.int 1)) _))))))))=true:=fun s0 s1=>JM p4 p2 s0 s1
 try simp only[ab]at *
 grind
def aqc:=fb (lP::(fn 171 Md)::zk) lK<|am fun F p0 p1 p2=>by
 have hr2:(E.I F _=2)->E.B F (fn _ (pr _ (pr cw _)))=true:=fun s0=>aaN p2 p1 s0
 try simp only[ab]at *
 grind
def axs:=fb (fj::lP::(fn 170 (pr im (pr iJ (pr iI (pr iD (pr ip (pr ng Md)))))))::nH) oR<|aT fun F p0 p1 p2 p3 p4=>by
 have:=@aA F bo (.int 1)
 have hr3:(E.I F _=2)->(E.I F _=E.I F _+1)->E.B F (fn _ (pr _ (pr _ (pr _ (pr _ (pr _ (pr _ (pr (.ar .add .i64 bo (.int 1)) _))))))))=true:=fun s0 s1=>JI p4 p2 s0 s1
 try simp only[ab]at *
 grind
def asE:=fb (fj::lP::(fn 170 (pr im (pr iJ (pr iI (pr iD (pr ip (pr (fn 10 (.int 0)) Md)))))))::nH) Bw<|aT fun F p0 p1 p2 p3 p4=>by
 have:=@aA F bo (.int 1)
 have hr3:(E.I F _=2)->(E.I F _=E.I F _+1)->E.B F (fn _ (pr _ (pr _ (pr _ (pr _ (pr _ (pr _ (pr (.ar .add .i64 bo (.int 1)) _))))))))=true:=fun s0 s1=>JI p4 p2 s0 s1
 try simp only[ab]at *
 grind
def ayF:=fb (fj::sf::sZ::ul::(fn 171 FO)::uj::nH) lK<|cU fun F p0 p1 p2 p3 p4 p5 p6 p7=>by
 have hr2:(E.I F _=3)->E.B F (fn _ (pr _ (pr cw _)))=true:=fun s0=>Td p7 p4 s0
 try simp only[ab]at *
 grind
def aFF:=fb (fj::sf::sZ::ul::(fn 170 (pr im (pr iJ (pr iI (pr iD (pr ip (pr ng FO)))))))::uj::nH) oR<|cU fun F p0 p1 p2 p3 p4 p5 p6 p7=>by
 have:=@aA F bo (.int 1)
 have hr3:(E.I F _=3)->(E.I F _=E.I F _+1)->E.B F (fn _ (pr _ (pr _ (pr _ (pr _ (pr _ (pr _ (pr (.ar .add .i64 bo (.int 1)) _))))))))=true:=fun s0 s1=>Jp p7 p4 s0 s1
 try simp only[ab]at *
 grind
def ayv:=fb (fj::sf::sZ::ul::(fn 170 (pr im (pr iJ (pr iI (pr iD (pr ip (pr (fn 10 (.int 0)) FO)))))))::uj::nH) Bw<|cU fun F p0 p1 p2 p3 p4 p5 p6 p7=>by
 have:=@aA F bo (.int 1)
 have hr3:(E.I F _=3)->(E.I F _=E.I F _+1)->E.B F (fn _ (pr _ (pr _ (pr _ (pr _ (pr _ (pr _ (pr (.ar .add .i64 bo (.int 1)) _))))))))=true:=fun s0 s1=>Jp p7 p4 s0 s1
 try simp only[ab]at *
 grind
def aAD:=fb (mm::(fn 171 Lm)::Un) lK<|aF fun F p0 p1 p2 p3=>by
 have hr2:(0<=E.I F _)->(E.I F _<E.I F _)->E.B F (fn _ (pr _ (pr cw _)))=true:=fun s0 s1=>ad9 p3 p1 s0 s1
 try simp only[ab]at *
 grind
def aD7:=fb (mm::(fn 170 (pr yn (pr wP (pr xu (pr xS (pr y8 (pr (var 84) Lm)))))))::R8) YX<|aT fun F p0 p1 p2 p3 p4=>by
 have:=@aA F fo (.int 1)
 have:=@bP F N4 N5 ef d9 cw
 have hr3:(0<=E.I F _)->(E.I F _=E.I F _+1)->E.B F (fn _ (pr _ (pr _ (pr _ (pr _ (pr _ (pr _ (pr _ (pr (.ar .add .i64 fo (.int 1)) _)))))))))=true:=fun s0 s1=>M3 p4 p1 s0 s1
 try simp only[ab]at *
 grind
def al6:=fb (mm::(fn 170 (pr yn (pr wP (pr xu (pr xS (pr y8 (pr (fn 10 (.int 0)) Lm)))))))::R8) (fn 176 (pr yn (pr wP (pr xu (pr xS (pr y8 (pr (fn 10 (.int 0)) Q8)))))))<|aT fun F p0 p1 p2 p3 p4=>by
 have:=@aA F fo (.int 1)
 have:=@bP F N4 N5 ef d9 cw
 have hr3:(0<=E.I F _)->(E.I F _=E.I F _+1)->E.B F (fn _ (pr _ (pr _ (pr _ (pr _ (pr _ (pr _ (pr _ (pr (.ar .add .i64 fo (.int 1)) _)))))))))=true:=fun s0 s1=>M3 p4 p1 s0 s1
 try simp only[ab]at *
 grind
def atj:=fb (mm::(fn 171 VH)::Oy) lK<|aF fun F p0 p1 p2 p3=>by
 have hr2:(0<=E.I F _)->(E.I F _<E.I F _)->E.B F (fn _ (pr _ (pr cw _)))=true:=fun s0 s1=>ad9 p2 p1 s0 s1
 try simp only[ab]at *
 grind
def ayw:=fb (mm::(fn 170 (pr yn (pr wP (pr xu (pr xS (pr y8 (pr (var 84) VH)))))))::fu::Oy) YX<|aT fun F p0 p1 p2 p3 p4=>by
 have:=@aA F fo (.int 1)
 have:=@bP F N4 N5 ef d9 cw
 have hr3:(0<=E.I F _)->(E.I F _=E.I F _+1)->E.B F (fn _ (pr _ (pr _ (pr _ (pr _ (pr _ (pr _ (pr _ (pr (.ar .add .i64 fo (.int 1)) _)))))))))=true:=fun s0 s1=>M3 p3 p1 s0 s1
 try simp only[ab]at *
 grind
def aB3:=fb aaL (.not (cmp .lss (.int 30) xW))<|au fun F p0 p1=>by
 try simp only[ab]at *
 grind
def awF:=fb Og (cmp .lss (fn 7 (pr cw (.ar .add .i64 fo (.int 1)))) (fn 7 (pr cw fo)))<|am fun F p0 p1 p2=>by
 have:=@bP F N4 N5 ef d9 cw
 try simp only[ab,aj]at *
 obtain⟨a3,ea3,qa3⟩:=ah ((E.I F fo)+(1))
 grind
def aDr:=fb ([qT,(fn 171 Yb),s7]) lK<|am fun F p0 p1 p2=>by
 have hr2:(E.I F _=0)->E.B F (fn _ (pr _ (pr cw _)))=true:=fun s0=>ado p2 p1 s0
 try simp only[ab]at *
 grind
def alf:=fb (fj::qT::(fn 170 (pr im (pr iJ (pr iI (pr iD (pr ip (pr ng Yb)))))))::IR) oR<|aT fun F p0 p1 p2 p3 p4=>by
 have:=@aA F bo (.int 1)
 have hr3:(E.I F _=0)->(E.I F _=E.I F _+1)->E.B F (fn _ (pr _ (pr _ (pr _ (pr _ (pr _ (pr _ (pr (.ar .add .i64 bo (.int 1)) _))))))))=true:=fun s0 s1=>Gn p3 p2 s0 s1
 try simp only[ab]at *
 grind
def azj:=fb ([lA,(fn 171 SS),s7]) lK<|am fun F p0 p1 p2=>by
 have hr2:(E.I F _=1)->E.B F (fn _ (pr _ (pr cw _)))=true:=fun s0=>NX p2 p1 s0
 try simp only[ab]at *
 grind
def ams:=fb (fj::lA::(fn 170 (pr im (pr iJ (pr iI (pr iD (pr ip (pr ng SS)))))))::IR) oR<|aT fun F p0 p1 p2 p3 p4=>by
 have:=@aA F bo (.int 1)
 have hr3:(E.I F _=1)->(E.I F _=E.I F _+1)->E.B F (fn _ (pr _ (pr _ (pr _ (pr _ (pr _ (pr _ (pr (.ar .add .i64 bo (.int 1)) _))))))))=true:=fun s0 s1=>JM p3 p2 s0 s1
 try simp only[ab]at *
 grind
def arS:=fb ([lP,(fn 171 RC),s7]) lK<|am fun F p0 p1 p2=>by
 have hr2:(E.I F _=2)->E.B F (fn _ (pr _ (pr cw _)))=true:=fun s0=>aaN p2 p1 s0
 try simp only[ab]at *
 grind
def aux:=fb (fj::lP::(fn 170 (pr im (pr iJ (pr iI (pr iD (pr ip (pr ng RC)))))))::IR) oR<|aT fun F p0 p1 p2 p3 p4=>by
 have:=@aA F bo (.int 1)
 have hr3:(E.I F _=2)->(E.I F _=E.I F _+1)->E.B F (fn _ (pr _ (pr _ (pr _ (pr _ (pr _ (pr _ (pr (.ar .add .i64 bo (.int 1)) _))))))))=true:=fun s0 s1=>JI p3 p2 s0 s1
 try simp only[ab]at *
 grind
def auJ:=fb (fj::sf::sZ::ul::(fn 171 Xc)::ab9) lK<|cU fun F p0 p1 p2 p3 p4 p5 p6 p7=>by
 have hr2:(E.I F _=3)->E.B F (fn _ (pr _ (pr cw _)))=true:=fun s0=>Td p5 p4 s0
 try simp only[ab]at *
 grind
def avW:=fb (fj::sf::sZ::ul::(fn 170 (pr im (pr iJ (pr iI (pr iD (pr ip (pr ng Xc)))))))::ab9) oR<|cU fun F p0 p1 p2 p3 p4 p5 p6 p7=>by
 have:=@aA F bo (.int 1)
 have hr3:(E.I F _=3)->(E.I F _=E.I F _+1)->E.B F (fn _ (pr _ (pr _ (pr _ (pr _ (pr _ (pr _ (pr (.ar .add .i64 bo (.int 1)) _))))))))=true:=fun s0 s1=>Jp p5 p4 s0 s1
 try simp only[ab]at *
 grind
def anI:=fb ([(cmp .eql (fn 0 vK) xW)]) (cmp .eql (fn 0 (fn 40 vK)) xW)<|az fun F p0=>by
 simp_all[ahb]
def aCF:=fb aea (.not (cmp .lss (fn 7 (pr cw (.ar .add .i64 fo (.int 1)))) (.int 0)))<|aF fun F p0 p1 p2 p3=>by
 try simp only[ab,aj]at *
 obtain⟨a3,ea3,qa3⟩:=ah ((E.I F fo)+(1))
 omega
def p48:List Fa:=[iR,aEb,agC,ayB,asI,aF3,arg,ajF,aAX,aii,al0,arw,av8,aGl,akY,aq0,alw,apG,azA,ajV,auc,aoh,aln,afe,atr,ay6,ahi,av0,aw7,awG,at3,ald,aFq,ajr,agW,aG9,asH,ant,ajX,asj,arh,agl,anK,awD,aC7,aj9,auH,avc,aDv,aAY,alI,awk,aCV,aqc,axs,asE,ayF,aFF,ayv,aAD,aD7,al6,atj,ayw,aB3,awF,aDr,alf,azj,ams,arS,aux,auJ,avW,anI,aCF]
theorem ajO:aU Try.prog (bn (ayQ)):=sc p48 (arW) adh ([]) (by kernel_rfl) (by kernel_rfl)
def UU:Nl:=nc ajO adh
end
end Go.Proofs.Ytnnbmcfabojjjaa.payColours
