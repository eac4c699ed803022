/-
  PayPlans: contracts of functions, part 12.
-/
import Derived.Test.YtnnbmcfabojjjaaRows
import Derived.Test.YtnnbmcfabojjjaaNat
import Derived.WalkKit
import Derived.ProofKit
import Derived.OpenShut
import Derived.ChangeOld
import Derived.Below
import Derived.KernelRfl
import Derived.Lib.SmallJoins
import Derived.Laws.IdiomArrays
import Derived.Test.YtnnbmcfabojjjaaPayPlansPartk
namespace Go.Proofs.Ytnnbmcfabojjjaa.payPlans
open Go.ChangeShapes Go.WideShapes Go.ChangeAt Go.RowKit
open Go.SX
open Go.SX.E (fn pr cmp var)
set_option linter.unusedVariables false
set_option linter.unusedSimpArgs false
set_option maxRecDepth 100000
noncomputable section
abbrev fj:E:=var 49
abbrev QQ1:E:=cmp .lss fj (.int 0)
abbrev yT:E:=.not QQ1
abbrev dq:E:=var 36
abbrev Gd:E:=cmp .lss fj (fn 0 dq)
abbrev bN:E:=var 26
abbrev kF:E:=cmp .lss bN (.int 4)
abbrev fo:E:=var 32
abbrev ft:E:=var 33
abbrev gk:E:=var 34
abbrev hY:E:=var 35
abbrev cn:E:=var 42
abbrev cA:E:=var 3
abbrev cF:E:=var 4
abbrev cD:E:=var 5
abbrev cC:E:=var 6
abbrev mL:E:=var 0
abbrev iK:E:=var 1
abbrev Ig:E:=pr cA (pr cF (pr cD (pr cC (pr mL (pr iK (pr (var 2) (.int 0)))))))
abbrev YI:E:=pr bN (pr cn Ig)
abbrev vW:E:=fn 178 (pr fo (pr ft (pr gk (pr hY (pr dq (pr (fn 10 (.int 0)) YI))))))
abbrev aSq:E:=pr iK (var 2)
abbrev aj2:E:=fn 145 aSq
abbrev TD:E:=fn 117 iK
abbrev sW:=[aj2,TD]
abbrev aUL:E:=cmp .lss (fn 120 (pr iK (pr (fn 1 (pr dq fj)) (fn 9 (pr (fn 1 (pr iK (.int 0))) (.int 12)))))) (.int 0)
abbrev Tu:E:=.not aUL
abbrev kY:E:=cmp .lss cn (fn 1 (pr (fn 23 (pr cA (fn 23 (pr cF (fn 23 (pr cD (fn 23 (pr cC (fn 10 (.int 0)))))))))) bN))
abbrev kh:E:=.not (cmp .lss (fn 1 (pr (fn 23 (pr cA (fn 23 (pr cF (fn 23 (pr cD (fn 23 (pr cC (fn 10 (.int 0)))))))))) bN)) cn)
abbrev aN7:E:=cmp .lss fj (.int (-1))
abbrev aXg:E:=.not aN7
abbrev at3:E:=cmp .lss (.int 40) (fn 0 dq)
abbrev aYo:E:=.not at3
abbrev xf:=[aYo]
abbrev aAa:=aXg::xf
abbrev aHT:=Gd::aAa
abbrev ak9:=yT::aHT
abbrev pE:E:=var 48
abbrev Wx:E:=cmp .eql pE (fn 179 (pr (fn 19 (pr dq (fn 6 (pr fj (.int 1))))) (pr bN (pr mL (pr iK (.int 0))))))
abbrev tQ:E:=cmp .eql pE (fn 179 (pr dq (pr bN (pr mL (pr iK (.int 0))))))
abbrev Tg:=Gd::xf
abbrev VZ:=yT::Tg
abbrev acI:E:=cmp .eql (var 50) (fn 150 (pr mL (pr iK (fn 1 (pr dq fj)))))
abbrev ZE:E:=cmp .eql (var 50) bN
abbrev BM:E:=fn 178 (pr fo (pr ft (pr gk (pr hY (pr dq (pr (var 39) YI))))))
abbrev LB:E:=cmp .lss (.int 0) fo
abbrev ahs:E:=pr hY (.int 0)
abbrev al1:E:=pr gk ahs
abbrev W2:E:=pr ft al1
abbrev avp:E:=pr fo W2
abbrev Vn:E:=fn 188 avp
abbrev q8:=[Vn]
abbrev u9:E:=cmp .eql bN (.int 0)
abbrev vk:E:=cmp .lss cn cA
abbrev mR:E:=.not (cmp .lss bN (.int 0))
abbrev avk:=[mR,vW]
abbrev art:=kF::avk
abbrev FU:=kh::art
abbrev H3:E:=fn 178 (pr fo (pr ft (pr gk (pr hY (pr dq (pr (fn 10 (.int 0)) (pr (fn 6 (pr bN (.int 1))) (pr (.int 0) Ig))))))))
abbrev PY:E:=cmp .lss (.int 0) ft
abbrev vA:E:=cmp .eql bN (.int 1)
abbrev tS:E:=cmp .lss cn cF
abbrev Rv:E:=cmp .lss (.int 0) gk
abbrev ue:E:=cmp .eql bN (.int 2)
abbrev vc:E:=cmp .lss cn cD
abbrev L6:E:=cmp .lss (.int 0) hY
abbrev zF:E:=.not u9
abbrev zL:E:=.not vA
abbrev Cs:E:=.not ue
abbrev u5:E:=cmp .lss cn cC
abbrev amP:=[kF,mR]
abbrev nR:E:=.not (cmp .lss cn (.int 0))
abbrev eg:E:=var 7
abbrev eP:E:=fn 146 (pr cA (pr cF (pr cD (pr cC eg))))
abbrev aKR:=[Vn,eP]
abbrev aaB:=vW::aKR
abbrev QJ:=nR::aaB
abbrev OZ:E:=pr bN (pr (.ar .add .i64 cn (.int 1)) Ig)
abbrev aDJ:E:=pr (fn 10 (.int 0)) OZ
abbrev alj:E:=pr dq aDJ
abbrev amO:E:=pr hY alj
abbrev Yb:E:=pr gk amO
abbrev mY:E:=fn 185 (pr fo (pr ft (pr gk (pr hY (pr bN (.int 0))))))
abbrev lg:=[nR]
abbrev Ck:E:=.not (cmp .lss (.ar .add .i64 cn (.int 1)) (.int 0))
abbrev aWj:E:=cmp .lss (.int 20) cn
abbrev ago:E:=.not aWj
abbrev Xp:=ago::lg
abbrev M4:=kh::Xp
abbrev aI2:=vk::M4
abbrev arf:=u9::aI2
abbrev aia:=eP::arf
abbrev Bs:E:=.not (cmp .lss (.int 20) (.ar .add .i64 cn (.int 1)))
abbrev aDy:=tS::M4
abbrev aMD:=vA::aDy
abbrev amz:=eP::aMD
abbrev asG:=vc::M4
abbrev aw4:=ue::asG
abbrev agq:=eP::aw4
abbrev asp:=u5::Xp
abbrev Vv:=eP::asp
abbrev AP:E:=.not (cmp .lss (fn 1 (pr (fn 23 (pr cA (fn 23 (pr cF (fn 23 (pr cD (fn 23 (pr cC (fn 10 (.int 0)))))))))) bN)) (.ar .add .i64 cn (.int 1)))
abbrev Fw:=nR::amP
abbrev C5:E:=cmp .lss (fn 7 (pr (.int 20) (.ar .add .i64 cn (.int 1)))) (fn 7 (pr (.int 20) cn))
abbrev Rr:E:=cmp .eql pE (.int 0)
abbrev aKT:E:=pr (.int 4) (pr eg Ig)
abbrev Xq:E:=fn 177 aKT
abbrev pd:E:=var 51
abbrev wv:E:=var 40
abbrev By:E:=.not (cmp .lss (fn 7 (pr (.int 20) (.ar .add .i64 cn (.int 1)))) (.int 0))
abbrev Px:E:=.not Rr
abbrev OE:E:=fn 184 (pr pd (pr dq (pr pE (fn 0 dq))))
abbrev aFG:=[TD,Px,OE]
abbrev aaZ:=aj2::aFG
abbrev Rm:E:=cmp .eql (fn 0 (var 39)) wv
abbrev aoa:=kY::eP::Fw
abbrev aBw:=ago::Fw
abbrev aSD:=kh::aBw
abbrev aCP:=eP::aSD
abbrev akL:=kY::aCP
def aMG:=fb (yT::Gd::kF::vW::sW) Tu<|be fun F p0 p1 p2 p3 p4 p5=>by
 have:=afn p3 p4 p5 (i:=fj)
 try simp only[aa]at *
 grind
def amf:=fb ([kY]) kh<|aq fun F p0=>by
 try simp only[aa]at *
 grind
def agH:=fb ak9 (.not (cmp .lss (.ar .sub .i64 fj (.int 1)) (.int (-1))))<|aj fun F p0 p1 p2 p3=>by
 try simp only[aa,ab]at *
 obtain⟨a11,ea11,qa11⟩:=ae ((E.I F fj)-(1))
 omega
def aid:=fb ([QQ1,Wx]) tQ<|ak fun F p0 p1=>by
 have:=@ase F bN (fn 6 (pr fj (.int 1))) dq mL iK
 try simp only[aa]at *
 grind
def ak3:=fb VZ (cmp .lss (.ar .sub .i64 fj (.int 1)) (fn 0 dq))<|af fun F p0 p1 p2=>by
 try simp only[aa,ab]at *
 obtain⟨a11,ea11,qa11⟩:=ae ((E.I F fj)-(1))
 omega
def WN:=fb (yT::acI::ZE::Tg) (cmp .eql (fn 1 (pr dq fj)) (fn 179 (pr (fn 19 (pr dq (fn 6 (pr (.ar .sub .i64 fj (.int 1)) (.int 1))))) (pr bN (pr mL (pr iK (.int 0)))))))<|aB fun F p0 p1 p2 p3 p4=>by
 have:=@aK F fj (.int 1)
 have:=@aPw F bN (fn 6 (pr (.ar .sub .i64 fj (.int 1)) (.int 1))) fj dq mL iK
 try simp only[aa]at *
 grind
def al8:=fb (yT::acI::(.not ZE)::Wx::Tg) (cmp .eql pE (fn 179 (pr (fn 19 (pr dq (fn 6 (pr (.ar .sub .i64 fj (.int 1)) (.int 1))))) (pr bN (pr mL (pr iK (.int 0)))))))<|be fun F p0 p1 p2 p3 p4 p5=>by
 have:=@aK F fj (.int 1)
 have:=@aHN F bN (fn 6 (pr (.ar .sub .i64 fj (.int 1)) (.int 1))) (fn 6 (pr fj (.int 1))) fj dq mL iK
 try simp only[aa]at *
 grind
def YY:=fb VZ (cmp .lss (fn 6 (pr (.ar .sub .i64 fj (.int 1)) (.int 1))) (fn 6 (pr fj (.int 1))))<|af fun F p0 p1 p2=>by
 try simp only[aa,ab]at *
 obtain⟨a11,ea11,qa11⟩:=ae ((E.I F fj)-(1))
 omega
def ae6:=fb ak9 (.not (cmp .lss (fn 6 (pr (.ar .sub .i64 fj (.int 1)) (.int 1))) (.int 0)))<|aj fun F p0 p1 p2 p3=>by
 try simp only[aa,ab]at *
 obtain⟨a11,ea11,qa11⟩:=ae ((E.I F fj)-(1))
 omega
def aXk:List Fa:=[fK,aMG,amf,agH,aid,ak3,WN,al8,YY,ae6]
theorem aqQ:BodyOk Try.prog (wE (some nH)) nH (iz false).less (iz false).tmps {(iz false).st with pc:=(iz false).st.pc}:=
 kc good (facts:=fl aXk) (gh _) (anns:=[]) (gL _ (by kernel_rfl)) (nats:=fR.l) fR.h (n:=3000) (by kernel_rfl) (by kernel_rfl)
theorem atP:BodyOk Try.prog (wE (some nH)) nH (iz false).less (iz false).tmps (iz false).st:=aqQ
def apj:=fb (yT::Gd::kF::BM::sW) Tu<|be fun F p0 p1 p2 p3 p4 p5=>by
 have:=afn p3 p4 p5 (i:=fj)
 try simp only[aa]at *
 grind
def aRy:List Fa:=[fK,apj,amf,agH,aid,ak3,WN,al8,YY,ae6]
theorem aNc:BodyOk Try.prog (wE (some nH)) nH (iz true).less (iz true).tmps {(iz true).st with pc:=(iz true).st.pc}:=
 kc good (facts:=fl aRy) (gh _) (anns:=[]) (gL _ (by kernel_rfl)) (nats:=fR.l) fR.h (n:=3000) (by kernel_rfl) (by kernel_rfl)
theorem aAv:BodyOk Try.prog (wE (some nH)) nH (iz true).less (iz true).tmps (iz true).st:=aNc
theorem aIM:dZ Try.prog (wE (some nH)):=rW rfl (by kernel_rfl) (by
 intro τ hτ;rcases List.mem_cons.1 hτ with rfl|hτ
 ·exact atP
 rcases List.mem_cons.1 hτ with rfl|hτ
 ·exact aAv
 cases hτ)
def Pb:List Ann:=(wE (some nH))::[]
theorem Ur:∀x∈Pb,dZ Try.prog x:=by
 intro x hx;rcases List.mem_cons.1 hx with rfl|hx
 ·exact aIM
 exact gL [] (by kernel_rfl) x hx
def E7:=fb (LB::q8) (fn 188 (pr (.ar .sub .i64 fo (.int 1)) W2))<|ak fun F p0 p1=>by
 have:=@aK F fo (.int 1)
 have:=(@ah F _ _ _ _).mp p1
 rw[show E.B F _=true↔_ from iff_of_eq (@ah F _ _ _ _)]
 try simp only[aa]at *
 grind
def adL:=fb ([u9,vk,kh]) kY<|af fun F p0 p1 p2=>by
 have:=@C0 F bN cA cF cD cC
 try simp only[aa]at *
 grind
def aUQ:=fb (u9::(.not vk)::FU) H3<|be fun F p0 p1 p2 p3 p4 p5=>by
 have:=@C0 F bN cA cF cD cC
 have hr9:(E.I F _=E.I F _)->(0<=E.I F _)->(E.I F _<4)->(E.I F _=E.I F _+1)->(E.I F _=0)->E.B F (fn _ (pr _ (pr _ (pr _ (pr _ (pr _ (pr _ (pr (fn 6 (pr bN (.int 1))) (pr (.int 0) _)))))))))=true:=fun s0 s1 s2 s3 s4=>rq p5 s0 s1 s2 s3 s4
 try simp only[aa]at *
 grind
def Ul:=fb (PY::q8) (fn 188 (pr fo (pr (.ar .sub .i64 ft (.int 1)) al1)))<|ak fun F p0 p1=>by
 have:=@aK F ft (.int 1)
 have:=(@ah F _ _ _ _).mp p1
 rw[show E.B F _=true↔_ from iff_of_eq (@ah F _ _ _ _)]
 try simp only[aa]at *
 grind
def aa5:=fb ([vA,tS,kh]) kY<|af fun F p0 p1 p2=>by
 have:=@Cm F bN cA cF cD cC
 try simp only[aa]at *
 grind
def aTE:=fb (vA::(.not tS)::FU) H3<|be fun F p0 p1 p2 p3 p4 p5=>by
 have:=@Cm F bN cA cF cD cC
 have hr9:(E.I F _=E.I F _)->(0<=E.I F _)->(E.I F _<4)->(E.I F _=E.I F _+1)->(E.I F _=0)->E.B F (fn _ (pr _ (pr _ (pr _ (pr _ (pr _ (pr _ (pr (fn 6 (pr bN (.int 1))) (pr (.int 0) _)))))))))=true:=fun s0 s1 s2 s3 s4=>rq p5 s0 s1 s2 s3 s4
 try simp only[aa]at *
 grind
def ahk:=fb (Rv::q8) (fn 188 (pr fo (pr ft (pr (.ar .sub .i64 gk (.int 1)) ahs))))<|ak fun F p0 p1=>by
 have:=@aK F gk (.int 1)
 have:=(@ah F _ _ _ _).mp p1
 rw[show E.B F _=true↔_ from iff_of_eq (@ah F _ _ _ _)]
 try simp only[aa]at *
 grind
def ac6:=fb ([ue,vc,kh]) kY<|af fun F p0 p1 p2=>by
 have:=@zH F bN cA cF cD cC
 try simp only[aa]at *
 grind
def aWG:=fb (ue::(.not vc)::FU) H3<|be fun F p0 p1 p2 p3 p4 p5=>by
 have:=@zH F bN cA cF cD cC
 have hr9:(E.I F _=E.I F _)->(0<=E.I F _)->(E.I F _<4)->(E.I F _=E.I F _+1)->(E.I F _=0)->E.B F (fn _ (pr _ (pr _ (pr _ (pr _ (pr _ (pr _ (pr (fn 6 (pr bN (.int 1))) (pr (.int 0) _)))))))))=true:=fun s0 s1 s2 s3 s4=>rq p5 s0 s1 s2 s3 s4
 try simp only[aa]at *
 grind
def agN:=fb (L6::q8) (fn 188 (pr fo (pr ft (pr gk (pr (.ar .sub .i64 hY (.int 1)) (.int 0))))))<|ak fun F p0 p1=>by
 have:=@aK F hY (.int 1)
 have:=(@ah F _ _ _ _).mp p1
 rw[show E.B F _=true↔_ from iff_of_eq (@ah F _ _ _ _)]
 try simp only[aa]at *
 grind
def Wj:=fb (zF::zL::Cs::u5::kh::amP) kY<|bb fun F p0 p1 p2 p3 p4 p5 p6=>by
 have:=@zV F bN cA cF cD cC
 try simp only[aa]at *
 grind
def awY:=fb (zF::zL::Cs::(.not u5)::FU) H3<|ba fun F p0 p1 p2 p3 p4 p5 p6 p7=>by
 have:=@zV F bN cA cF cD cC
 have hr9:(E.I F _=E.I F _)->(0<=E.I F _)->(E.I F _<4)->(E.I F _=E.I F _+1)->(E.I F _=0)->E.B F (fn _ (pr _ (pr _ (pr _ (pr _ (pr _ (pr _ (pr (fn 6 (pr bN (.int 1))) (pr (.int 0) _)))))))))=true:=fun s0 s1 s2 s3 s4=>rq p7 s0 s1 s2 s3 s4
 try simp only[aa]at *
 grind
def aRG:=fb (u9::vk::LB::QJ) (fn 178 (pr (.ar .sub .i64 fo (.int 1)) (pr ft Yb)))<|bb fun F p0 p1 p2 p3 p4 p5 p6=>by
 have:=@aK F fo (.int 1)
 have:=@am F cn (.int 1)
 have:=@aO F cA cF cD cC eg
 have:=(@ah F _ _ _ _).mp p5
 have hr8:(E.I F _=0)->(0<=E.I F _)->(E.I F _=E.I F _+1)->(0<E.I F _)->(E.I F _=E.I F _-1)->E.B F (fn _ (pr (.ar .sub .i64 fo (.int 1)) (pr _ (pr _ (pr _ (pr _ (pr _ (pr _ (pr (.ar .add .i64 cn (.int 1)) _)))))))))=true:=fun s0 s1 s2 s3 s4=>UQ p4 s0 s1 s2 s3 s4
 try simp only[aa]at *
 grind
def ag1:=fb (u9::(.not LB)::q8) mY<|af fun F p0 p1 p2=>by
 have:=(@ah F _ _ _ _).mp p2
 have hr1:=fun s0 s1=>@aaU F fo ft gk hY bN s0 s1
 try simp only[aa]at *
 grind
def aoW:=fb (vA::tS::PY::QJ) (fn 178 (pr fo (pr (.ar .sub .i64 ft (.int 1)) Yb)))<|bb fun F p0 p1 p2 p3 p4 p5 p6=>by
 have:=@aK F ft (.int 1)
 have:=@am F cn (.int 1)
 have:=@aO F cA cF cD cC eg
 have:=(@ah F _ _ _ _).mp p5
 have hr8:(E.I F _=1)->(0<=E.I F _)->(E.I F _=E.I F _+1)->(0<E.I F _)->(E.I F _=E.I F _-1)->E.B F (fn _ (pr _ (pr (.ar .sub .i64 ft (.int 1)) (pr _ (pr _ (pr _ (pr _ (pr _ (pr (.ar .add .i64 cn (.int 1)) _)))))))))=true:=fun s0 s1 s2 s3 s4=>YO p4 s0 s1 s2 s3 s4
 try simp only[aa]at *
 grind
def akR:=fb (vA::(.not PY)::q8) mY<|af fun F p0 p1 p2=>by
 have:=(@ah F _ _ _ _).mp p2
 have hr2:=fun s0 s1=>@aem F fo ft gk hY bN s0 s1
 try simp only[aa]at *
 grind
def ar9:=fb (ue::vc::Rv::QJ) (fn 178 (pr fo (pr ft (pr (.ar .sub .i64 gk (.int 1)) amO))))<|bb fun F p0 p1 p2 p3 p4 p5 p6=>by
 have:=@aK F gk (.int 1)
 have:=@am F cn (.int 1)
 have:=@aO F cA cF cD cC eg
 have:=(@ah F _ _ _ _).mp p5
 have hr8:(E.I F _=2)->(0<=E.I F _)->(E.I F _=E.I F _+1)->(0<E.I F _)->(E.I F _=E.I F _-1)->E.B F (fn _ (pr _ (pr _ (pr (.ar .sub .i64 gk (.int 1)) (pr _ (pr _ (pr _ (pr _ (pr (.ar .add .i64 cn (.int 1)) _)))))))))=true:=fun s0 s1 s2 s3 s4=>al7 p4 s0 s1 s2 s3 s4
 try simp only[aa]at *
 grind
def afE:=fb (ue::(.not Rv)::q8) mY<|af fun F p0 p1 p2=>by
 have:=(@ah F _ _ _ _).mp p2
 have hr3:=fun s0 s1=>@af8 F fo ft gk hY bN s0 s1
 try simp only[aa]at *
 grind
def ayM:=fb (zF::zL::Cs::u5::L6::nR::kF::mR::aaB) (fn 178 (pr fo (pr ft (pr gk (pr (.ar .sub .i64 hY (.int 1)) alj)))))<|dH fun F p0 p1 p2 p3 p4 p5 p6 p7 p8 p9 ai=>by
 have:=@aK F hY (.int 1)
 have:=@am F cn (.int 1)
 have:=@aO F cA cF cD cC eg
 have:=(@ah F _ _ _ _).mp p9
 have hr8:(E.I F _=3)->(0<=E.I F _)->(E.I F _=E.I F _+1)->(0<E.I F _)->(E.I F _=E.I F _-1)->E.B F (fn _ (pr _ (pr _ (pr _ (pr (.ar .sub .i64 hY (.int 1)) (pr _ (pr _ (pr _ (pr (.ar .add .i64 cn (.int 1)) _)))))))))=true:=fun s0 s1 s2 s3 s4=>agL p8 s0 s1 s2 s3 s4
 try simp only[aa]at *
 grind
def TG:=fb (zF::zL::Cs::(.not L6)::kF::mR::q8) mY<|bb fun F p0 p1 p2 p3 p4 p5 p6=>by
 have:=(@ah F _ _ _ _).mp p6
 have hr4:=fun s0 s1=>@ane F fo ft gk hY bN s0 s1
 try simp only[aa]at *
 grind
def aeV:=fb (eP::vk::lg) Ck<|af fun F p0 p1 p2=>by
 have:=@aO F cA cF cD cC eg
 try simp only[aa,ab]at *
 obtain⟨a8,ea8,qa8⟩:=ae ((E.I F cn)+(1))
 grind
def ac9:=fb xf (.not (cmp .lss (.ar .sub .i64 (fn 0 dq) (.int 1)) (.int (-1))))<|aq fun F p0=>by
 try simp only[aa,ab]at *
 have:=@cf F dq
 obtain⟨a8,ea8,qa8⟩:=ae ((E.I F (fn 0 dq))-(1))
 omega
def ali:=fb (eP::tS::lg) Ck<|af fun F p0 p1 p2=>by
 have:=@aO F cA cF cD cC eg
 try simp only[aa,ab]at *
 obtain⟨a8,ea8,qa8⟩:=ae ((E.I F cn)+(1))
 grind
def aeP:=fb (eP::vc::lg) Ck<|af fun F p0 p1 p2=>by
 have:=@aO F cA cF cD cC eg
 try simp only[aa,ab]at *
 obtain⟨a8,ea8,qa8⟩:=ae ((E.I F cn)+(1))
 grind
def amd:=fb (eP::u5::lg) Ck<|af fun F p0 p1 p2=>by
 have:=@aO F cA cF cD cC eg
 try simp only[aa,ab]at *
 obtain⟨a8,ea8,qa8⟩:=ae ((E.I F cn)+(1))
 grind
def abO:=fb aia Bs<|be fun F p0 p1 p2 p3 p4 p5=>by
 have:=@aO F cA cF cD cC eg
 try simp only[aa,ab]at *
 obtain⟨a8,ea8,qa8⟩:=ae ((E.I F cn)+(1))
 grind
def ab9:=fb xf (cmp .lss (.ar .sub .i64 (fn 0 dq) (.int 1)) (fn 0 dq))<|aq fun F p0=>by
 try simp only[aa,ab]at *
 have:=@cf F dq
 obtain⟨a8,ea8,qa8⟩:=ae ((E.I F (fn 0 dq))-(1))
 omega
def aaY:=fb amz Bs<|be fun F p0 p1 p2 p3 p4 p5=>by
 have:=@aO F cA cF cD cC eg
 try simp only[aa,ab]at *
 obtain⟨a8,ea8,qa8⟩:=ae ((E.I F cn)+(1))
 grind
def afC:=fb agq Bs<|be fun F p0 p1 p2 p3 p4 p5=>by
 have:=@aO F cA cF cD cC eg
 try simp only[aa,ab]at *
 obtain⟨a8,ea8,qa8⟩:=ae ((E.I F cn)+(1))
 grind
def aiD:=fb Vv Bs<|aj fun F p0 p1 p2 p3=>by
 have:=@aO F cA cF cD cC eg
 try simp only[aa,ab]at *
 obtain⟨a8,ea8,qa8⟩:=ae ((E.I F cn)+(1))
 grind
def ae8:=fb (eP::u9::vk::kh::lg) AP<|aB fun F p0 p1 p2 p3 p4=>by
 have:=@C0 F bN cA cF cD cC
 try simp only[aa,ab]at *
 obtain⟨a8,ea8,qa8⟩:=ae ((E.I F cn)+(1))
 omega
def ajO:=fb xf (cmp .eql (fn 179 (pr (fn 19 (pr dq (fn 6 (pr (.ar .sub .i64 (fn 0 dq) (.int 1)) (.int 1))))) (pr bN (pr mL (pr iK (.int 0)))))) (.int 0))<|aq fun F p0=>by
 have:=@aK F (fn 0 dq) (.int 1)
 have:=@aqa F bN (fn 6 (pr (.ar .sub .i64 (fn 0 dq) (.int 1)) (.int 1))) dq mL iK
 try simp only[aa]at *
 have:=@cf F dq
 grind
def ab8:=fb (eP::vA::tS::kh::lg) AP<|aB fun F p0 p1 p2 p3 p4=>by
 have:=@Cm F bN cA cF cD cC
 try simp only[aa,ab]at *
 obtain⟨a8,ea8,qa8⟩:=ae ((E.I F cn)+(1))
 omega
def ag7:=fb (eP::ue::vc::kh::lg) AP<|aB fun F p0 p1 p2 p3 p4=>by
 have:=@zH F bN cA cF cD cC
 try simp only[aa,ab]at *
 obtain⟨a8,ea8,qa8⟩:=ae ((E.I F cn)+(1))
 omega
def amp:=fb (eP::zF::zL::Cs::u5::kh::Fw) AP<|bh fun F p0 p1 p2 p3 p4 p5 p6 p7 p8=>by
 have:=@zV F bN cA cF cD cC
 try simp only[aa,ab]at *
 obtain⟨a8,ea8,qa8⟩:=ae ((E.I F cn)+(1))
 omega
def Zl:=fb (eP::vk::lg) C5<|af fun F p0 p1 p2=>by
 have:=@aO F cA cF cD cC eg
 try simp only[aa,ab]at *
 obtain⟨a8,ea8,qa8⟩:=ae ((E.I F cn)+(1))
 grind
def Ut:=fb (tQ::mY::kY::Rr::nR::kF::mR::vW::sW) Xq<|bE fun F p0 p1 p2 p3 p4 p5 p6 p7 p8 p9=>by
 have hr8:(E.I F _=0)->(0<=E.I F _)->(E.I F _<4)->(0<=E.I F _)->(E.I F _<E.I F _)->E.B F (fn _ (pr _ (pr eg _)))=true:=fun s0 s1 s2 s3 s4=>ak5 p7 p8 p9 p1 s0 s1 s2 s3 s4
 try simp only[aa]at *
 grind
def ai6:=fb ((.not (cmp .lss (fn 0 dq) (fn 0 pd)))::xf) (.not (cmp .lss (.int 40) (fn 0 pd)))<|ak fun F p0 p1=>by
 try simp only[aa]at *
 grind
def afz:=fb (tQ::mY::kY::BM::Rr::nR::kF::mR::sW) Xq<|bE fun F p0 p1 p2 p3 p4 p5 p6 p7 p8 p9=>by
 have hr8:(E.I F _=0)->(0<=E.I F _)->(E.I F _<4)->(0<=E.I F _)->(E.I F _<E.I F _)->E.B F (fn _ (pr _ (pr eg _)))=true:=fun s0 s1 s2 s3 s4=>ak5 p3 p8 p9 p1 s0 s1 s2 s3 s4
 try simp only[aa]at *
 grind
def LL:=fb ([(.not (cmp .lss (var 41) wv)),(.not (cmp .lss wv (.int 1)))]) (.not (cmp .lss (var 41) (.int 0)))<|ak fun F p0 p1=>by
 try simp only[aa]at *
 grind
def akd:=fb (eP::tS::lg) C5<|af fun F p0 p1 p2=>by
 have:=@aO F cA cF cD cC eg
 try simp only[aa,ab]at *
 obtain⟨a8,ea8,qa8⟩:=ae ((E.I F cn)+(1))
 grind
def akY:=fb (eP::vc::lg) C5<|af fun F p0 p1 p2=>by
 have:=@aO F cA cF cD cC eg
 try simp only[aa,ab]at *
 obtain⟨a8,ea8,qa8⟩:=ae ((E.I F cn)+(1))
 grind
def al0:=fb (eP::u5::lg) C5<|af fun F p0 p1 p2=>by
 have:=@aO F cA cF cD cC eg
 try simp only[aa,ab]at *
 obtain⟨a8,ea8,qa8⟩:=ae ((E.I F cn)+(1))
 grind
def agI:=fb aia By<|be fun F p0 p1 p2 p3 p4 p5=>by
 have:=@aO F cA cF cD cC eg
 try simp only[aa,ab]at *
 obtain⟨a8,ea8,qa8⟩:=ae ((E.I F cn)+(1))
 grind
def ado:=fb (tQ::mY::nR::kF::mR::vW::aaZ) (.not (cmp .lss (.int 30) (fn 6 (pr (.int 1) (fn 0 pd)))))<|bE fun F p0 p1 p2 p3 p4 p5 p6 p7 p8 p9=>by
 have:=@cf F (fn 10 (.int 0))
 have:=@Ua _ _ _ _ _ _ _ _ _ pd pE _ _ _ _ _ _ _ p5 p6 p7 p1
 try simp only[aa]at *
 grind
def XH:=fb (kF::BM::Rm::sW) (.not (cmp .lss (.int 2147483648) (fn 6 (pr wv (.int 1)))))<|aB fun F p0 p1 p2 p3 p4=>by
 have:=Sq p1 p3 p4
 try simp only[aa]at *
 have:=@cf F dq
 grind
def Wd:=fb amz By<|be fun F p0 p1 p2 p3 p4 p5=>by
 have:=@aO F cA cF cD cC eg
 try simp only[aa,ab]at *
 obtain⟨a8,ea8,qa8⟩:=ae ((E.I F cn)+(1))
 grind
def anG:=fb agq By<|be fun F p0 p1 p2 p3 p4 p5=>by
 have:=@aO F cA cF cD cC eg
 try simp only[aa,ab]at *
 obtain⟨a8,ea8,qa8⟩:=ae ((E.I F cn)+(1))
 grind
def abQ:=fb Vv By<|aj fun F p0 p1 p2 p3=>by
 have:=@aO F cA cF cD cC eg
 try simp only[aa,ab]at *
 obtain⟨a8,ea8,qa8⟩:=ae ((E.I F cn)+(1))
 grind
def agu:=fb (tQ::mY::kY::Px::OE::nR::kF::mR::vW::eP::sW) (fn 178 (pr fo (pr ft (pr gk (pr hY (pr pd (pr (fn 23 (pr pE (fn 10 (.int 0)))) OZ)))))))<|fu fun F p0 p1 p2 p3 p4 p5 p6 p7 p8 p9 ai ao=>by
 have:=@am F cn (.int 1)
 have:=@uA F bN _ _ _ _ _ p9
 have hr9:(E.I F _=E.I F _)->(¬E.I F _=0)->(0<=E.I F _)->(E.I F _<4)->(0<=E.I F _)->(E.I F _=E.I F _+1)->E.B F (fn _ (pr _ (pr _ (pr _ (pr _ (pr _ (pr _ (pr _ (pr (.ar .add .i64 cn (.int 1)) _)))))))))=true:=fun s0 s1 s2 s3 s4 s5=>aLc p8 ai ao p1 s0 s1 p4 s2 s3 s4 s5
 try simp only[aa]at *
 grind
def ah3:=fb aoa Ck<|aB fun F p0 p1 p2 p3 p4=>by
 have:=@uA F bN _ _ _ _ _ p1
 try simp only[aa,ab]at *
 obtain⟨a10,ea10,qa10⟩:=ae ((E.I F cn)+(1))
 omega
def Ly:=fb ([Rm]) (cmp .eql (fn 6 (pr (fn 0 (var 39)) (.int 1))) (fn 6 (pr wv (.int 1))))<|aq fun F p0=>by
 try simp only[aa]at *
 grind
def amu:=fb akL Bs<|bb fun F p0 p1 p2 p3 p4 p5 p6=>by
 have:=@uA F bN _ _ _ _ _ p1
 try simp only[aa,ab]at *
 obtain⟨a10,ea10,qa10⟩:=ae ((E.I F cn)+(1))
 omega
def Ve:=fb (tQ::mY::nR::kF::mR::BM::Rm::aaZ) (.not (cmp .lss (.int 30) (fn 6 (pr (fn 6 (pr wv (.int 1))) (fn 0 pd)))))<|dH fun F p0 p1 p2 p3 p4 p5 p6 p7 p8 p9 ai=>by
 have:=@Ua _ _ _ _ _ _ _ _ _ pd pE _ _ _ _ _ _ _ p5 p7 p8 p1
 try simp only[aa]at *
 grind
def ZY:=fb (kY::eP::kh::Fw) AP<|be fun F p0 p1 p2 p3 p4 p5=>by
 try simp only[aa,ab]at *
 obtain⟨a10,ea10,qa10⟩:=ae ((E.I F cn)+(1))
 omega
def ZA:=fb (tQ::mY::kY::BM::Px::OE::nR::kF::mR::eP::sW) (fn 178 (pr fo (pr ft (pr gk (pr hY (pr pd (pr (fn 3 (pr (var 39) (fn 23 (pr pE (fn 10 (.int 0)))))) OZ)))))))<|fu fun F p0 p1 p2 p3 p4 p5 p6 p7 p8 p9 ai ao=>by
 have:=@am F cn (.int 1)
 have:=@uA F bN _ _ _ _ _ p9
 have hr9:(E.I F _=E.I F _)->(¬E.I F _=0)->(0<=E.I F _)->(E.I F _<4)->(0<=E.I F _)->(E.I F _=E.I F _+1)->E.B F (fn _ (pr _ (pr _ (pr _ (pr _ (pr _ (pr _ (pr _ (pr (.ar .add .i64 cn (.int 1)) _)))))))))=true:=fun s0 s1 s2 s3 s4 s5=>ajK p3 ai ao p1 s0 s1 p5 s2 s3 s4 s5
 try simp only[aa]at *
 grind
def anX:=fb aoa C5<|aB fun F p0 p1 p2 p3 p4=>by
 have:=@uA F bN _ _ _ _ _ p1
 try simp only[aa,ab]at *
 obtain⟨a10,ea10,qa10⟩:=ae ((E.I F cn)+(1))
 omega
def Wh:=fb akL By<|bb fun F p0 p1 p2 p3 p4 p5 p6=>by
 have:=@uA F bN _ _ _ _ _ p1
 try simp only[aa,ab]at *
 obtain⟨a10,ea10,qa10⟩:=ae ((E.I F cn)+(1))
 omega
def aq2:List Fa:=[fK,E7,adL,aUQ,Ul,aa5,aTE,ahk,ac6,aWG,agN,Wj,awY,aRG,ag1,aoW,akR,ar9,afE,ayM,TG,aeV,ac9,ali,aeP,amd,abO,ab9,aaY,afC,aiD,ae8,ajO,ab8,ag7,amp,Zl,Ut,ai6,afz,LL,akd,akY,al0,agI,ado,XH,Wd,anG,abQ,agu,ah3,Ly,amu,Ve,ZY,ZA,anX,Wh]
theorem aoi:BodyOk Try.prog (yy (some nJ)) nJ (gQ false).less (gQ false).tmps {(gQ false).st with pc:=(gQ false).st.pc}:=
 kc good (facts:=fl aq2) (gh _) (anns:=Pb) Ur (nats:=fR.l) fR.h (n:=3000) (by kernel_rfl) (by kernel_rfl)
theorem atI:BodyOk Try.prog (yy (some nJ)) nJ (gQ false).less (gQ false).tmps (gQ false).st:=aoi
end
end Go.Proofs.Ytnnbmcfabojjjaa.payPlans
