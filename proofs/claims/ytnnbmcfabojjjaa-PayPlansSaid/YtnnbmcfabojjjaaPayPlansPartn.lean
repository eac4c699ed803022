/-
  PayPlans: contracts of functions, part 14.
-/
import Derived.Test.YtnnbmcfabojjjaaRows
import Derived.Test.YtnnbmcfabojjjaaNat
import Derived.WalkKit
import Derived.ProofKit
import Derived.OpenShut
import Derived.ChangeOld
import Derived.Below
import Derived.KernelRfl
import Derived.Lib.SmallJoins
import Derived.Laws.IdiomArrays
import Derived.Test.YtnnbmcfabojjjaaPayPlansPartm
namespace Go.Proofs.Ytnnbmcfabojjjaa.payPlans
open Go.ChangeShapes Go.WideShapes Go.ChangeAt Go.RowKit
open Go.SX
open Go.SX.E (fn pr cmp var)
set_option linter.unusedVariables false
set_option linter.unusedSimpArgs false
set_option maxRecDepth 100000
noncomputable section
abbrev gN:E:=var 3
abbrev gX:E:=var 4
abbrev gT:E:=var 5
abbrev gJ:E:=var 6
abbrev fm:E:=var 7
abbrev un:E:=fn 146 (pr gN (pr gX (pr gT (pr gJ fm))))
abbrev ie:E:=var 26
abbrev A7:E:=cmp .lss ie (.int 4)
abbrev XX8:E:=cmp .lss ie (.int 0)
abbrev XX9:E:=.not XX8
abbrev MH:=[XX9]
abbrev C9:=A7::MH
abbrev axc:E:=cmp .lss (.int 4) ie
abbrev ajz:E:=.not axc
abbrev PM:E:=var 1
abbrev Wg:E:=var 2
abbrev FZ:E:=pr gN (pr gX (pr gT (pr gJ (pr (var 0) (pr PM (pr Wg (.int 0)))))))
abbrev uh:E:=pr (.int 0) FZ
abbrev az:E:=var 32
abbrev aA:E:=var 33
abbrev ay:E:=var 34
abbrev ax:E:=var 35
abbrev dO:E:=var 36
abbrev XT:E:=pr (fn 6 (pr ie (.int 1))) uh
abbrev gy:E:=cmp .lss az aA
abbrev mE:E:=cmp .lss aA ay
abbrev uM:E:=cmp .lss ay ax
abbrev Ww:E:=pr ax (.int 0)
abbrev Xx:E:=pr ay Ww
abbrev nu:E:=fn 188 (pr az (pr aA Xx))
abbrev lW:=[nu]
abbrev sK:E:=fn 188 (pr az (pr aA (pr ay (pr (.ar .sub .i64 ax (.int 1)) (.int 0)))))
abbrev ajy:E:=cmp .lss (.int 0) ax
abbrev agQ:E:=.not ajy
abbrev HW:=agQ::lW
abbrev ai1:=uM::HW
abbrev aWh:=mE::ai1
abbrev air:=gy::aWh
abbrev aqf:E:=pr fm FZ
abbrev UF:E:=pr (.int 4) aqf
abbrev oV:E:=fn 177 UF
abbrev DW:=[agQ]
abbrev tR:=nu::gy::mE::uM::DW
abbrev rG:E:=.not (cmp .lss (.int 40) (fn 0 (fn 24 (pr (pr (.int 1) dO) (pr (.int 1) (pr (fn 0 dO) (fn 22 dO)))))))
abbrev E1:E:=fn 188 (pr az (pr aA (pr (.ar .sub .i64 ay (.int 1)) Ww)))
abbrev acH:E:=cmp .lss (.int 0) ay
abbrev Tf:E:=.not acH
abbrev Se:=Tf::lW
abbrev akG:=gy::mE::Se
abbrev tw:=[nu,gy,mE,Tf]
abbrev BT:E:=cmp .lss aA ax
abbrev anJ:=gy::BT::HW
abbrev vi:=nu::gy::BT::DW
abbrev aPp:E:=pr (.ar .sub .i64 aA (.int 1)) Xx
abbrev azz:E:=pr az aPp
abbrev Ys:E:=fn 188 azz
abbrev I5:E:=cmp .lss (.int 0) aA
abbrev sS:=[nu,gy,(.not I5)]
abbrev qb:E:=.not gy
abbrev n4:E:=cmp .lss az ay
abbrev abh:=n4::ai1
abbrev te:=nu::n4::uM::DW
abbrev vf:=[nu,n4,Tf]
abbrev zS:E:=.not n4
abbrev rU:E:=cmp .lss az ax
abbrev sO:=nu::rU::DW
abbrev aR:E:=var 42
abbrev iH:E:=cmp .lss aR fm
abbrev RE:E:=cmp .lss (.int 0) az
abbrev MN:E:=cmp .eql (fn 0 dO) (.int 0)
abbrev ug:E:=.not (cmp .lss aR (.int 0))
abbrev zG:E:=fn 178 (pr az (pr aA (pr ay (pr ax (pr dO (pr (fn 10 (.int 0)) (pr (.int 4) (pr aR FZ))))))))
abbrev aXS:E:=pr PM Wg
abbrev ZK:E:=fn 145 aXS
abbrev abE:E:=fn 117 PM
abbrev ahF:=[ZK,abE]
abbrev aNZ:=[abE,(.not MN)]
abbrev aO3:=ZK::aNZ
abbrev Vz:=zG::aO3
abbrev aIp:E:=cmp .lss fm aR
abbrev NX:E:=.not aIp
abbrev aHL:E:=pr (fn 10 (.int 0)) UF
abbrev aX8:E:=pr dO aHL
abbrev aW1:E:=pr ax aX8
abbrev aNG:E:=pr ay aW1
abbrev aCT:E:=pr aA aNG
abbrev aEp:E:=pr az aCT
abbrev XN:E:=fn 178 aEp
abbrev aQp:=[nu,un]
abbrev aFl:=zG::aQp
abbrev DK:=ug::aFl
abbrev To:=ajy::DK
abbrev aaD:=uM::To
abbrev aPN:E:=pr (.ar .add .i64 aR (.int 1)) FZ
abbrev W0:E:=pr (.int 4) aPN
abbrev aTw:E:=pr (fn 10 (.int 0)) W0
abbrev abj:E:=pr dO aTw
abbrev rc:E:=fn 178 (pr az (pr aA (pr ay (pr (.ar .sub .i64 ax (.int 1)) abj))))
abbrev rK:E:=.not (cmp .lss (.int 30) (fn 6 (pr (.int 1) (fn 0 (fn 24 (pr (pr (.int 1) dO) (pr (.int 1) (pr (fn 0 dO) (fn 22 dO)))))))))
abbrev aSX:=acH::DK
abbrev aaN:List E:=(.not uM)::aSX
abbrev an7:E:=pr ax abj
abbrev IP:E:=fn 178 (pr az (pr aA (pr (.ar .sub .i64 ay (.int 1)) an7)))
abbrev al6:E:=pr ay an7
abbrev aO0:E:=pr (.ar .sub .i64 aA (.int 1)) al6
abbrev aPo:E:=pr az aO0
abbrev abR:E:=fn 178 aPo
abbrev aGY:E:=pr aA al6
abbrev aC4:E:=pr (.ar .sub .i64 az (.int 1)) aGY
abbrev anR:E:=fn 178 aC4
abbrev so:E:=.not (cmp .lss (.ar .add .i64 aR (.int 1)) (.int 0))
abbrev qv:E:=fn 178 (pr az (pr aA (pr ay (pr ax (pr (fn 24 (pr (pr (.int 1) dO) (pr (.int 1) (pr (fn 0 dO) (fn 22 dO))))) (pr (fn 23 (pr (fn 1 (pr dO (.int 0))) (fn 10 (.int 0)))) W0))))))
abbrev aLS:E:=cmp .lss (.int 20) aR
abbrev auH:E:=.not aLS
abbrev axR:=[auH,ug]
abbrev atB:=NX::axR
abbrev aLA:=iH::atB
abbrev adl:=un::aLA
abbrev rD:E:=.not (cmp .lss (.int 20) (.ar .add .i64 aR (.int 1)))
abbrev ri:E:=.not (cmp .lss fm (.ar .add .i64 aR (.int 1)))
abbrev qT:E:=cmp .lss (fn 7 (pr (.int 20) (.ar .add .i64 aR (.int 1)))) (fn 7 (pr (.int 20) aR))
abbrev rM:E:=.not (cmp .lss (fn 7 (pr (.int 20) (.ar .add .i64 aR (.int 1)))) (.int 0))
theorem ap8:dZ Try.prog (yy (some nJ)):=rW rfl (by kernel_rfl) (by
 intro τ hτ;rcases List.mem_cons.1 hτ with rfl|hτ
 ·exact atI
 rcases List.mem_cons.1 hτ with rfl|hτ
 ·exact aCk
 cases hτ)
def Ti:List Ann:=(yy (some nJ))::[]
theorem ad8:∀x∈Ti,dZ Try.prog x:=by
 intro x hx;rcases List.mem_cons.1 hx with rfl|hx
 ·exact ap8
 exact gL [] (by kernel_rfl) x hx
def aed:=fb (un::C9) (.not (cmp .lss (fn 1 (pr (fn 23 (pr gN (fn 23 (pr gX (fn 23 (pr gT (fn 23 (pr gJ (fn 10 (.int 0)))))))))) ie)) (.int 0)))<|af fun F p0 p1 p2=>by
 have:=@uA F ie _ _ _ _ _ p0
 try simp only[aa]at *
 grind
def avV:=fb ([(.not A7),ajz,(fn 178 (pr (var 16) (pr (var 17) (pr (var 18) (pr (var 19) (pr (var 20) (pr (fn 10 (.int 0)) (pr ie uh))))))))]) (fn 178 (pr (var 16) (pr (var 17) (pr (var 18) (pr (var 19) (pr (var 20) (pr (fn 10 (.int 0)) (pr (.int 4) uh))))))))<|af fun F p0 p1 p2=>by
 have hr3:(E.I F _=E.I F _)->(E.I F _=E.I F _)->E.B F (fn _ (pr _ (pr _ (pr _ (pr _ (pr _ (pr _ (pr (.int 4) (pr (.int 0) _)))))))))=true:=fun s0 s1=>wV p2 s0 s1
 try simp only[aa]at *
 grind
def anL:=fb (A7::(fn 178 (pr az (pr aA (pr ay (pr ax (pr dO (pr (fn 10 (.int 0)) XT)))))))::MH) (fn 178 (pr az (pr aA (pr ay (pr ax (pr dO (pr (fn 10 (.int 0)) (pr (.ar .add .i64 ie (.int 1)) uh))))))))<|af fun F p0 p1 p2=>by
 have:=@am F ie (.int 1)
 have hr3:(E.I F _=E.I F _)->(E.I F _=E.I F _)->E.B F (fn _ (pr _ (pr _ (pr _ (pr _ (pr _ (pr _ (pr (.ar .add .i64 ie (.int 1)) (pr (.int 0) _)))))))))=true:=fun s0 s1=>wV p1 s0 s1
 try simp only[aa]at *
 grind
def ajS:=fb (A7::(fn 178 (pr az (pr aA (pr ay (pr ax (pr dO (pr (var 39) XT)))))))::MH) (fn 178 (pr az (pr aA (pr ay (pr ax (pr dO (pr (var 39) (pr (.ar .add .i64 ie (.int 1)) uh))))))))<|af fun F p0 p1 p2=>by
 have:=@am F ie (.int 1)
 have hr3:(E.I F _=E.I F _)->(E.I F _=E.I F _)->E.B F (fn _ (pr _ (pr _ (pr _ (pr _ (pr _ (pr _ (pr (.ar .add .i64 ie (.int 1)) (pr (.int 0) _)))))))))=true:=fun s0 s1=>wV p1 s0 s1
 try simp only[aa]at *
 grind
def aeu:=fb C9 (.not (cmp .lss (.ar .add .i64 ie (.int 1)) (.int 0)))<|ak fun F p0 p1=>by
 try simp only[aa,ab]at *
 obtain⟨a4,ea4,qa4⟩:=ae ((E.I F ie)+(1))
 omega
def afw:=fb C9 (.not (cmp .lss (.int 4) (.ar .add .i64 ie (.int 1))))<|ak fun F p0 p1=>by
 try simp only[aa,ab]at *
 obtain⟨a4,ea4,qa4⟩:=ae ((E.I F ie)+(1))
 omega
def afW:=fb C9 (cmp .lss (fn 7 (pr (.int 4) (.ar .add .i64 ie (.int 1)))) (fn 7 (pr (.int 4) ie)))<|ak fun F p0 p1=>by
 try simp only[aa,ab]at *
 obtain⟨a4,ea4,qa4⟩:=ae ((E.I F ie)+(1))
 omega
def VJ:=fb C9 (.not (cmp .lss (fn 7 (pr (.int 4) (.ar .add .i64 ie (.int 1)))) (.int 0)))<|ak fun F p0 p1=>by
 try simp only[aa,ab]at *
 obtain⟨a4,ea4,qa4⟩:=ae ((E.I F ie)+(1))
 omega
def aIa:List Fa:=[fK,aed,avV,anL,ajS,aeu,afw,afW,VJ]
theorem atJ:BodyOk Try.prog (wj (some ni)) ni (im false).less (im false).tmps {(im false).st with pc:=(im false).st.pc}:=
 kc good (facts:=fl aIa) (gh _) (anns:=Ti) ad8 (nats:=fR.l) fR.h (n:=3000) (by kernel_rfl) (by kernel_rfl)
theorem aMB:BodyOk Try.prog (wj (some ni)) ni (im false).less (im false).tmps (im false).st:=atJ
def aGo:=fb ([(.not A7),ajz,(fn 178 (pr (var 16) (pr (var 17) (pr (var 18) (pr (var 19) (pr (var 20) (pr (var 23) (pr ie uh))))))))]) (fn 178 (pr (var 16) (pr (var 17) (pr (var 18) (pr (var 19) (pr (var 20) (pr (var 23) (pr (.int 4) uh))))))))<|af fun F p0 p1 p2=>by
 have hr3:(E.I F _=E.I F _)->(E.I F _=E.I F _)->E.B F (fn _ (pr _ (pr _ (pr _ (pr _ (pr _ (pr _ (pr (.int 4) (pr (.int 0) _)))))))))=true:=fun s0 s1=>wV p2 s0 s1
 try simp only[aa]at *
 grind
def aHh:List Fa:=[fK,aed,aGo,anL,ajS,aeu,afw,afW,VJ]
theorem aGq:BodyOk Try.prog (wj (some ni)) ni (im true).less (im true).tmps {(im true).st with pc:=(im true).st.pc}:=
 kc good (facts:=fl aHh) (gh _) (anns:=Ti) ad8 (nats:=fR.l) fR.h (n:=3000) (by kernel_rfl) (by kernel_rfl)
theorem aHq:BodyOk Try.prog (wj (some ni)) ni (im true).less (im true).tmps (im true).st:=aGq
theorem aBP:dZ Try.prog (wj (some ni)):=rW rfl (by kernel_rfl) (by
 intro τ hτ;rcases List.mem_cons.1 hτ with rfl|hτ
 ·exact aMB
 rcases List.mem_cons.1 hτ with rfl|hτ
 ·exact aHq
 cases hτ)
def ael:=fb (gy::mE::uM::lW) sK<|aj fun F p0 p1 p2 p3=>by
 have:=@aK F ax (.int 1)
 have:=(@ah F az aA ay ax).mp p3
 rw[show E.B F sK=true↔_ from iff_of_eq (@ah F az aA ay (.ar .sub .i64 ax (.int 1)))]
 try simp only[aa,ab]at *
 grind
def Vb:=fb air oV<|aB fun F p0 p1 p2 p3 p4=>by
 have:=(@ah F az aA ay ax).mp p4
 try simp only[aa,ab]at *
 grind
def aiA:=fb tR rG<|aB fun F p0 p1 p2 p3 p4=>by
 have:=(@ah F az aA ay ax).mp p0
 try simp only[aa,ab]at *
 grind
def aeB:=fb (gy::mE::lW) E1<|af fun F p0 p1 p2=>by
 have:=@aK F ay (.int 1)
 have:=(@ah F az aA ay ax).mp p2
 rw[show E.B F E1=true↔_ from iff_of_eq (@ah F az aA (.ar .sub .i64 ay (.int 1)) ax)]
 try simp only[aa,ab]at *
 grind
def UN:=fb akG oV<|aj fun F p0 p1 p2 p3=>by
 have:=(@ah F az aA ay ax).mp p3
 try simp only[aa,ab]at *
 grind
def afu:=fb tw rG<|aj fun F p0 p1 p2 p3=>by
 have:=(@ah F az aA ay ax).mp p0
 try simp only[aa,ab]at *
 grind
def aic:=fb (gy::(.not mE)::BT::lW) sK<|aj fun F p0 p1 p2 p3=>by
 have:=@aK F ax (.int 1)
 have:=(@ah F az aA ay ax).mp p3
 rw[show E.B F sK=true↔_ from iff_of_eq (@ah F az aA ay (.ar .sub .i64 ax (.int 1)))]
 try simp only[aa,ab]at *
 grind
def Zw:=fb anJ oV<|aj fun F p0 p1 p2 p3=>by
 have:=(@ah F az aA ay ax).mp p3
 try simp only[aa,ab]at *
 grind
def ais:=fb vi rG<|aj fun F p0 p1 p2 p3=>by
 have:=(@ah F az aA ay ax).mp p0
 try simp only[aa,ab]at *
 grind
def amj:=fb (gy::lW) Ys<|ak fun F p0 p1=>by
 have:=@aK F aA (.int 1)
 have:=(@ah F az aA ay ax).mp p1
 rw[show E.B F Ys=true↔_ from iff_of_eq (@ah F az (.ar .sub .i64 aA (.int 1)) ay ax)]
 try simp only[aa,ab]at *
 grind
def afs:=fb (gy::(.not I5)::lW) oV<|af fun F p0 p1 p2=>by
 have:=(@ah F az aA ay ax).mp p2
 try simp only[aa,ab]at *
 grind
def alC:=fb sS rG<|af fun F p0 p1 p2=>by
 have:=(@ah F az aA ay ax).mp p0
 try simp only[aa,ab]at *
 grind
def adA:=fb (qb::n4::uM::lW) sK<|aj fun F p0 p1 p2 p3=>by
 have:=@aK F ax (.int 1)
 have:=(@ah F az aA ay ax).mp p3
 rw[show E.B F sK=true↔_ from iff_of_eq (@ah F az aA ay (.ar .sub .i64 ax (.int 1)))]
 try simp only[aa,ab]at *
 grind
def akK:=fb abh oV<|aj fun F p0 p1 p2 p3=>by
 have:=(@ah F az aA ay ax).mp p3
 try simp only[aa,ab]at *
 grind
def acQ:=fb te rG<|aj fun F p0 p1 p2 p3=>by
 have:=(@ah F az aA ay ax).mp p0
 try simp only[aa,ab]at *
 grind
def aa8:=fb (qb::n4::lW) E1<|af fun F p0 p1 p2=>by
 have:=@aK F ay (.int 1)
 have:=(@ah F az aA ay ax).mp p2
 rw[show E.B F E1=true↔_ from iff_of_eq (@ah F az aA (.ar .sub .i64 ay (.int 1)) ax)]
 try simp only[aa,ab]at *
 grind
def Vl:=fb (n4::Se) oV<|af fun F p0 p1 p2=>by
 have:=(@ah F az aA ay ax).mp p2
 try simp only[aa,ab]at *
 grind
def aaz:=fb vf rG<|af fun F p0 p1 p2=>by
 have:=(@ah F az aA ay ax).mp p0
 try simp only[aa,ab]at *
 grind
def alZ:=fb (qb::zS::rU::lW) sK<|aj fun F p0 p1 p2 p3=>by
 have:=@aK F ax (.int 1)
 have:=(@ah F az aA ay ax).mp p3
 rw[show E.B F sK=true↔_ from iff_of_eq (@ah F az aA ay (.ar .sub .i64 ax (.int 1)))]
 try simp only[aa,ab]at *
 grind
def W4:=fb (rU::HW) oV<|af fun F p0 p1 p2=>by
 have:=(@ah F az aA ay ax).mp p2
 try simp only[aa,ab]at *
 grind
def aaE:=fb sO rG<|af fun F p0 p1 p2=>by
 have:=(@ah F az aA ay ax).mp p0
 try simp only[aa,ab]at *
 grind
def ax6:=fb (iH::qb::zS::(.not rU)::(.not RE)::MN::ug::zG::nu::ahF) oV<|dH fun F p0 p1 p2 p3 p4 p5 p6 p7 p8 p9 ai=>by
 have:=(@ah F az aA ay ax).mp p8
 have hr3:(0<=E.I F aR)->(E.I F aR<E.I F fm)->(E.I F (fn 0 dO)=0)->(E.I F az<=0)->(E.I F aA<=0)->(E.I F ay<=0)->(E.I F ax<=0)->E.B F oV=true:=fun s0 s1 s2 s3 s4 s5 s6=>aiV p7 p9 ai s0 s1 s2 s3 s4 s5 s6
 try simp only[aa,ab]at *
 grind
def aSe:=fb Vz rG<|aj fun F p0 p1 p2 p3=>by
 have:=Sq p0 p1 p2
 have:=@cf F (fn 10 (.int 0))
 have:=@Hc F (fn 22 dO) dO
 try simp only[aa,ab]at *
 have:=@cf F dO
 grind
def avK:=fb ([(.not iH),NX,zG]) XN<|af fun F p0 p1 p2=>by
 have hr3:(E.I F (.int 4)=E.I F (.int 4))->(E.I F fm=E.I F aR)->E.B F XN=true:=fun s0 s1=>wV p2 s0 s1
 try simp only[aa,ab]at *
 grind
def aFK:=fb (iH::gy::mE::aaD) rc<|bh fun F p0 p1 p2 p3 p4 p5 p6 p7 p8=>by
 have:=@aK F ax (.int 1)
 have:=@am F aR (.int 1)
 have:=@aO F gN gX gT gJ fm
 have:=(@ah F az aA ay ax).mp p7
 have hr3:(0<=E.I F aR)->(E.I F (.ar .add .i64 aR (.int 1))=E.I F aR+1)->(0<E.I F ax)->(E.I F (.ar .sub .i64 ax (.int 1))=E.I F ax-1)->(E.I F az<E.I F ax)->(E.I F aA<E.I F ax)->(E.I F ay<E.I F ax)->E.B F rc=true:=fun s0 s1 s2 s3 s4 s5 s6=>rl p6 s0 s1 s2 s3 s4 s5 s6
 try simp only[aa,ab]at *
 grind
def aw8:=fb tR rK<|aB fun F p0 p1 p2 p3 p4=>by
 have:=(@ah F az aA ay ax).mp p0
 try simp only[aa,ab]at *
 grind
def aUo:=fb (iH::gy::mE::aaN) IP<|bh fun F p0 p1 p2 p3 p4 p5 p6 p7 p8=>by
 have:=@aK F ay (.int 1)
 have:=@am F aR (.int 1)
 have:=@aO F gN gX gT gJ fm
 have:=(@ah F az aA ay ax).mp p7
 have hr3:(0<=E.I F aR)->(E.I F (.ar .add .i64 aR (.int 1))=E.I F aR+1)->(0<E.I F ay)->(E.I F (.ar .sub .i64 ay (.int 1))=E.I F ay-1)->(E.I F az<E.I F ay)->(E.I F aA<E.I F ay)->(E.I F ax<=E.I F ay)->E.B F IP=true:=fun s0 s1 s2 s3 s4 s5 s6=>Gl p6 s0 s1 s2 s3 s4 s5 s6
 try simp only[aa,ab]at *
 grind
def avU:=fb tw rK<|aj fun F p0 p1 p2 p3=>by
 have:=(@ah F az aA ay ax).mp p0
 try simp only[aa,ab]at *
 grind
def aMQ:=fb (iH::gy::(.not mE)::BT::To) rc<|bh fun F p0 p1 p2 p3 p4 p5 p6 p7 p8=>by
 have:=@aK F ax (.int 1)
 have:=@am F aR (.int 1)
 have:=@aO F gN gX gT gJ fm
 have:=(@ah F az aA ay ax).mp p7
 have hr3:(0<=E.I F aR)->(E.I F (.ar .add .i64 aR (.int 1))=E.I F aR+1)->(0<E.I F ax)->(E.I F (.ar .sub .i64 ax (.int 1))=E.I F ax-1)->(E.I F az<E.I F ax)->(E.I F aA<E.I F ax)->(E.I F ay<E.I F ax)->E.B F rc=true:=fun s0 s1 s2 s3 s4 s5 s6=>rl p6 s0 s1 s2 s3 s4 s5 s6
 try simp only[aa,ab]at *
 grind
def aXd:=fb vi rK<|aj fun F p0 p1 p2 p3=>by
 have:=(@ah F az aA ay ax).mp p0
 try simp only[aa,ab]at *
 grind
def aol:=fb (iH::gy::(.not mE)::(.not BT)::I5::DK) abR<|bh fun F p0 p1 p2 p3 p4 p5 p6 p7 p8=>by
 have:=@aK F aA (.int 1)
 have:=@am F aR (.int 1)
 have:=@aO F gN gX gT gJ fm
 have:=(@ah F az aA ay ax).mp p7
 have hr3:(0<=E.I F aR)->(E.I F (.ar .add .i64 aR (.int 1))=E.I F aR+1)->(0<E.I F aA)->(E.I F (.ar .sub .i64 aA (.int 1))=E.I F aA-1)->(E.I F az<E.I F aA)->(E.I F ay<=E.I F aA)->(E.I F ax<=E.I F aA)->E.B F abR=true:=fun s0 s1 s2 s3 s4 s5 s6=>acD p6 s0 s1 s2 s3 s4 s5 s6
 try simp only[aa,ab]at *
 grind
def aMO:=fb sS rK<|af fun F p0 p1 p2=>by
 have:=(@ah F az aA ay ax).mp p0
 try simp only[aa,ab]at *
 grind
def aJL:=fb (iH::qb::n4::aaD) rc<|bh fun F p0 p1 p2 p3 p4 p5 p6 p7 p8=>by
 have:=@aK F ax (.int 1)
 have:=@am F aR (.int 1)
 have:=@aO F gN gX gT gJ fm
 have:=(@ah F az aA ay ax).mp p7
 have hr3:(0<=E.I F aR)->(E.I F (.ar .add .i64 aR (.int 1))=E.I F aR+1)->(0<E.I F ax)->(E.I F (.ar .sub .i64 ax (.int 1))=E.I F ax-1)->(E.I F az<E.I F ax)->(E.I F aA<E.I F ax)->(E.I F ay<E.I F ax)->E.B F rc=true:=fun s0 s1 s2 s3 s4 s5 s6=>rl p6 s0 s1 s2 s3 s4 s5 s6
 try simp only[aa,ab]at *
 grind
def aEo:=fb te rK<|aj fun F p0 p1 p2 p3=>by
 have:=(@ah F az aA ay ax).mp p0
 try simp only[aa,ab]at *
 grind
def av9:=fb (iH::qb::n4::aaN) IP<|bh fun F p0 p1 p2 p3 p4 p5 p6 p7 p8=>by
 have:=@aK F ay (.int 1)
 have:=@am F aR (.int 1)
 have:=@aO F gN gX gT gJ fm
 have:=(@ah F az aA ay ax).mp p7
 have hr3:(0<=E.I F aR)->(E.I F (.ar .add .i64 aR (.int 1))=E.I F aR+1)->(0<E.I F ay)->(E.I F (.ar .sub .i64 ay (.int 1))=E.I F ay-1)->(E.I F az<E.I F ay)->(E.I F aA<E.I F ay)->(E.I F ax<=E.I F ay)->E.B F IP=true:=fun s0 s1 s2 s3 s4 s5 s6=>Gl p6 s0 s1 s2 s3 s4 s5 s6
 try simp only[aa,ab]at *
 grind
def aKp:=fb vf rK<|af fun F p0 p1 p2=>by
 have:=(@ah F az aA ay ax).mp p0
 try simp only[aa,ab]at *
 grind
def aLi:=fb (iH::qb::zS::rU::To) rc<|bh fun F p0 p1 p2 p3 p4 p5 p6 p7 p8=>by
 have:=@aK F ax (.int 1)
 have:=@am F aR (.int 1)
 have:=@aO F gN gX gT gJ fm
 have:=(@ah F az aA ay ax).mp p7
 have hr3:(0<=E.I F aR)->(E.I F (.ar .add .i64 aR (.int 1))=E.I F aR+1)->(0<E.I F ax)->(E.I F (.ar .sub .i64 ax (.int 1))=E.I F ax-1)->(E.I F az<E.I F ax)->(E.I F aA<E.I F ax)->(E.I F ay<E.I F ax)->E.B F rc=true:=fun s0 s1 s2 s3 s4 s5 s6=>rl p6 s0 s1 s2 s3 s4 s5 s6
 try simp only[aa,ab]at *
 grind
def auI:=fb sO rK<|af fun F p0 p1 p2=>by
 have:=(@ah F az aA ay ax).mp p0
 try simp only[aa,ab]at *
 grind
def aUm:=fb (iH::qb::zS::(.not rU)::RE::DK) anR<|bh fun F p0 p1 p2 p3 p4 p5 p6 p7 p8=>by
 have:=@aK F az (.int 1)
 have:=@am F aR (.int 1)
 have:=@aO F gN gX gT gJ fm
 have:=(@ah F az aA ay ax).mp p7
 have hr3:(0<=E.I F aR)->(E.I F (.ar .add .i64 aR (.int 1))=E.I F aR+1)->(0<E.I F az)->(E.I F (.ar .sub .i64 az (.int 1))=E.I F az-1)->(E.I F aA<=E.I F az)->(E.I F ay<=E.I F az)->(E.I F ax<=E.I F az)->E.B F anR=true:=fun s0 s1 s2 s3 s4 s5 s6=>agj p6 s0 s1 s2 s3 s4 s5 s6
 try simp only[aa,ab]at *
 grind
def ash:=fb Vz rK<|aj fun F p0 p1 p2 p3=>by
 have:=Sq p0 p1 p2
 have:=@cf F (fn 10 (.int 0))
 have:=@Hc F (fn 22 dO) dO
 try simp only[aa,ab]at *
 have:=@cf F dO
 grind
def afF:=fb ([un,iH,ug]) so<|af fun F p0 p1 p2=>by
 have:=@aO F gN gX gT gJ fm
 try simp only[aa,ab]at *
 obtain⟨a9,ea9,qa9⟩:=ae ((E.I F aR)+(1))
 try simp only[ea9]at *
 grind
def aXU:=fb air qv<|aB fun F p0 p1 p2 p3 p4=>by
 have:=(@ah F az aA ay ax).mp p4
 try simp only[aa,ab]at *
 grind
def aRr:=fb akG qv<|aj fun F p0 p1 p2 p3=>by
 have:=(@ah F az aA ay ax).mp p3
 try simp only[aa,ab]at *
 grind
def aCb:=fb anJ qv<|aj fun F p0 p1 p2 p3=>by
 have:=(@ah F az aA ay ax).mp p3
 try simp only[aa,ab]at *
 grind
def aSE:=fb (gy::(.not I5)::lW) qv<|af fun F p0 p1 p2=>by
 have:=(@ah F az aA ay ax).mp p2
 try simp only[aa,ab]at *
 grind
def aKQ:=fb abh qv<|aj fun F p0 p1 p2 p3=>by
 have:=(@ah F az aA ay ax).mp p3
 try simp only[aa,ab]at *
 grind
def aNH:=fb (n4::Se) qv<|af fun F p0 p1 p2=>by
 have:=(@ah F az aA ay ax).mp p2
 try simp only[aa,ab]at *
 grind
def aFn:=fb (rU::HW) qv<|af fun F p0 p1 p2=>by
 have:=(@ah F az aA ay ax).mp p2
 try simp only[aa,ab]at *
 grind
def ayW:=fb (iH::qb::zS::(.not rU)::(.not RE)::(.not MN)::ug::zG::un::ahF) qv<|dH fun F p0 p1 p2 p3 p4 p5 p6 p7 p8 p9 ai=>by
 have:=@am F aR (.int 1)
 have:=@aO F gN gX gT gJ fm
 have hr3:(0<=E.I F aR)->(E.I F (.ar .add .i64 aR (.int 1))=E.I F aR+1)->(0<E.I F (fn 0 dO))->(E.I F az<=0)->(E.I F aA<=0)->(E.I F ay<=0)->(E.I F ax<=0)->E.B F qv=true:=fun s0 s1 s2 s3 s4 s5 s6=>aSW p7 p9 ai s0 s1 s2 s3 s4 s5 s6
 try simp only[aa,ab]at *
 have:=@cf F dO
 grind
def Xd:=fb adl rD<|aB fun F p0 p1 p2 p3 p4=>by
 have:=@aO F gN gX gT gJ fm
 try simp only[aa,ab]at *
 obtain⟨a9,ea9,qa9⟩:=ae ((E.I F aR)+(1))
 try simp only[ea9]at *
 grind
def ac4:=fb tR so<|aB fun F p0 p1 p2 p3 p4=>by
 have:=(@ah F az aA ay ax).mp p0
 try simp only[aa,ab]at *
 obtain⟨a10,ea10,qa10⟩:=ae ((E.I F aR)+(1))
 try simp only[ea10]at *
 grind
def anK:=fb tw so<|aj fun F p0 p1 p2 p3=>by
 have:=(@ah F az aA ay ax).mp p0
 try simp only[aa,ab]at *
 obtain⟨a10,ea10,qa10⟩:=ae ((E.I F aR)+(1))
 try simp only[ea10]at *
 grind
def aaO:=fb vi so<|aj fun F p0 p1 p2 p3=>by
 have:=(@ah F az aA ay ax).mp p0
 try simp only[aa,ab]at *
 obtain⟨a10,ea10,qa10⟩:=ae ((E.I F aR)+(1))
 try simp only[ea10]at *
 grind
def al9:=fb sS so<|af fun F p0 p1 p2=>by
 have:=(@ah F az aA ay ax).mp p0
 try simp only[aa,ab]at *
 obtain⟨a10,ea10,qa10⟩:=ae ((E.I F aR)+(1))
 try simp only[ea10]at *
 grind
def am0:=fb te so<|aj fun F p0 p1 p2 p3=>by
 have:=(@ah F az aA ay ax).mp p0
 try simp only[aa,ab]at *
 obtain⟨a10,ea10,qa10⟩:=ae ((E.I F aR)+(1))
 try simp only[ea10]at *
 grind
def YD:=fb vf so<|af fun F p0 p1 p2=>by
 have:=(@ah F az aA ay ax).mp p0
 try simp only[aa,ab]at *
 obtain⟨a10,ea10,qa10⟩:=ae ((E.I F aR)+(1))
 try simp only[ea10]at *
 grind
def Zr:=fb sO so<|af fun F p0 p1 p2=>by
 have:=(@ah F az aA ay ax).mp p0
 try simp only[aa,ab]at *
 obtain⟨a10,ea10,qa10⟩:=ae ((E.I F aR)+(1))
 try simp only[ea10]at *
 grind
def anh:=fb ([un,iH,NX,ug]) ri<|aj fun F p0 p1 p2 p3=>by
 have:=@aO F gN gX gT gJ fm
 try simp only[aa,ab]at *
 obtain⟨a9,ea9,qa9⟩:=ae ((E.I F aR)+(1))
 try simp only[ea9]at *
 grind
def Vp:=fb tR rD<|aB fun F p0 p1 p2 p3 p4=>by
 have:=(@ah F az aA ay ax).mp p0
 try simp only[aa,ab]at *
 obtain⟨a10,ea10,qa10⟩:=ae ((E.I F aR)+(1))
 try simp only[ea10]at *
 grind
def ai9:=fb tw rD<|aj fun F p0 p1 p2 p3=>by
 have:=(@ah F az aA ay ax).mp p0
 try simp only[aa,ab]at *
 obtain⟨a10,ea10,qa10⟩:=ae ((E.I F aR)+(1))
 try simp only[ea10]at *
 grind
def aix:=fb vi rD<|aj fun F p0 p1 p2 p3=>by
 have:=(@ah F az aA ay ax).mp p0
 try simp only[aa,ab]at *
 obtain⟨a10,ea10,qa10⟩:=ae ((E.I F aR)+(1))
 try simp only[ea10]at *
 grind
def aae:=fb sS rD<|af fun F p0 p1 p2=>by
 have:=(@ah F az aA ay ax).mp p0
 try simp only[aa,ab]at *
 obtain⟨a10,ea10,qa10⟩:=ae ((E.I F aR)+(1))
 try simp only[ea10]at *
 grind
def VN:=fb te rD<|aj fun F p0 p1 p2 p3=>by
 have:=(@ah F az aA ay ax).mp p0
 try simp only[aa,ab]at *
 obtain⟨a10,ea10,qa10⟩:=ae ((E.I F aR)+(1))
 try simp only[ea10]at *
 grind
def VY:=fb vf rD<|af fun F p0 p1 p2=>by
 have:=(@ah F az aA ay ax).mp p0
 try simp only[aa,ab]at *
 obtain⟨a10,ea10,qa10⟩:=ae ((E.I F aR)+(1))
 try simp only[ea10]at *
 grind
def afR:=fb sO rD<|af fun F p0 p1 p2=>by
 have:=(@ah F az aA ay ax).mp p0
 try simp only[aa,ab]at *
 obtain⟨a10,ea10,qa10⟩:=ae ((E.I F aR)+(1))
 try simp only[ea10]at *
 grind
def Vu:=fb ([un,iH,ug]) qT<|af fun F p0 p1 p2=>by
 have:=@aO F gN gX gT gJ fm
 try simp only[aa,ab]at *
 obtain⟨a9,ea9,qa9⟩:=ae ((E.I F aR)+(1))
 try simp only[ea9]at *
 grind
def afG:=fb tR ri<|aB fun F p0 p1 p2 p3 p4=>by
 have:=(@ah F az aA ay ax).mp p0
 try simp only[aa,ab]at *
 obtain⟨a10,ea10,qa10⟩:=ae ((E.I F aR)+(1))
 try simp only[ea10]at *
 grind
def ads:=fb tw ri<|aj fun F p0 p1 p2 p3=>by
 have:=(@ah F az aA ay ax).mp p0
 try simp only[aa,ab]at *
 obtain⟨a10,ea10,qa10⟩:=ae ((E.I F aR)+(1))
 try simp only[ea10]at *
 grind
def acf:=fb vi ri<|aj fun F p0 p1 p2 p3=>by
 have:=(@ah F az aA ay ax).mp p0
 try simp only[aa,ab]at *
 obtain⟨a10,ea10,qa10⟩:=ae ((E.I F aR)+(1))
 try simp only[ea10]at *
 grind
def ahg:=fb sS ri<|af fun F p0 p1 p2=>by
 have:=(@ah F az aA ay ax).mp p0
 try simp only[aa,ab]at *
 obtain⟨a10,ea10,qa10⟩:=ae ((E.I F aR)+(1))
 try simp only[ea10]at *
 grind
def amG:=fb te ri<|aj fun F p0 p1 p2 p3=>by
 have:=(@ah F az aA ay ax).mp p0
 try simp only[aa,ab]at *
 obtain⟨a10,ea10,qa10⟩:=ae ((E.I F aR)+(1))
 try simp only[ea10]at *
 grind
def aob:=fb vf ri<|af fun F p0 p1 p2=>by
 have:=(@ah F az aA ay ax).mp p0
 try simp only[aa,ab]at *
 obtain⟨a10,ea10,qa10⟩:=ae ((E.I F aR)+(1))
 try simp only[ea10]at *
 grind
def aip:=fb sO ri<|af fun F p0 p1 p2=>by
 have:=(@ah F az aA ay ax).mp p0
 try simp only[aa,ab]at *
 obtain⟨a10,ea10,qa10⟩:=ae ((E.I F aR)+(1))
 try simp only[ea10]at *
 grind
def ZH:=fb adl rM<|aB fun F p0 p1 p2 p3 p4=>by
 have:=@aO F gN gX gT gJ fm
 try simp only[aa,ab]at *
 obtain⟨a9,ea9,qa9⟩:=ae ((E.I F aR)+(1))
 try simp only[ea9]at *
 grind
def abT:=fb tR qT<|aB fun F p0 p1 p2 p3 p4=>by
 have:=(@ah F az aA ay ax).mp p0
 try simp only[aa,ab]at *
 obtain⟨a10,ea10,qa10⟩:=ae ((E.I F aR)+(1))
 try simp only[ea10]at *
 grind
def ai5:=fb tw qT<|aj fun F p0 p1 p2 p3=>by
 have:=(@ah F az aA ay ax).mp p0
 try simp only[aa,ab]at *
 obtain⟨a10,ea10,qa10⟩:=ae ((E.I F aR)+(1))
 try simp only[ea10]at *
 grind
def afr:=fb vi qT<|aj fun F p0 p1 p2 p3=>by
 have:=(@ah F az aA ay ax).mp p0
 try simp only[aa,ab]at *
 obtain⟨a10,ea10,qa10⟩:=ae ((E.I F aR)+(1))
 try simp only[ea10]at *
 grind
def acj:=fb sS qT<|af fun F p0 p1 p2=>by
 have:=(@ah F az aA ay ax).mp p0
 try simp only[aa,ab]at *
 obtain⟨a10,ea10,qa10⟩:=ae ((E.I F aR)+(1))
 try simp only[ea10]at *
 grind
def aiz:=fb te qT<|aj fun F p0 p1 p2 p3=>by
 have:=(@ah F az aA ay ax).mp p0
 try simp only[aa,ab]at *
 obtain⟨a10,ea10,qa10⟩:=ae ((E.I F aR)+(1))
 try simp only[ea10]at *
 grind
def amN:=fb vf qT<|af fun F p0 p1 p2=>by
 have:=(@ah F az aA ay ax).mp p0
 try simp only[aa,ab]at *
 obtain⟨a10,ea10,qa10⟩:=ae ((E.I F aR)+(1))
 try simp only[ea10]at *
 grind
def WO:=fb sO qT<|af fun F p0 p1 p2=>by
 have:=(@ah F az aA ay ax).mp p0
 try simp only[aa,ab]at *
 obtain⟨a10,ea10,qa10⟩:=ae ((E.I F aR)+(1))
 try simp only[ea10]at *
 grind
def akv:=fb tR rM<|aB fun F p0 p1 p2 p3 p4=>by
 have:=(@ah F az aA ay ax).mp p0
 try simp only[aa,ab]at *
 obtain⟨a10,ea10,qa10⟩:=ae ((E.I F aR)+(1))
 try simp only[ea10]at *
 grind
def WX:=fb tw rM<|aj fun F p0 p1 p2 p3=>by
 have:=(@ah F az aA ay ax).mp p0
 try simp only[aa,ab]at *
 obtain⟨a10,ea10,qa10⟩:=ae ((E.I F aR)+(1))
 try simp only[ea10]at *
 grind
def acX:=fb vi rM<|aj fun F p0 p1 p2 p3=>by
 have:=(@ah F az aA ay ax).mp p0
 try simp only[aa,ab]at *
 obtain⟨a10,ea10,qa10⟩:=ae ((E.I F aR)+(1))
 try simp only[ea10]at *
 grind
def agP:=fb sS rM<|af fun F p0 p1 p2=>by
 have:=(@ah F az aA ay ax).mp p0
 try simp only[aa,ab]at *
 obtain⟨a10,ea10,qa10⟩:=ae ((E.I F aR)+(1))
 try simp only[ea10]at *
 grind
def am5:=fb te rM<|aj fun F p0 p1 p2 p3=>by
 have:=(@ah F az aA ay ax).mp p0
 try simp only[aa,ab]at *
 obtain⟨a10,ea10,qa10⟩:=ae ((E.I F aR)+(1))
 try simp only[ea10]at *
 grind
def ahY:=fb vf rM<|af fun F p0 p1 p2=>by
 have:=(@ah F az aA ay ax).mp p0
 try simp only[aa,ab]at *
 obtain⟨a10,ea10,qa10⟩:=ae ((E.I F aR)+(1))
 try simp only[ea10]at *
 grind
def Wl:=fb sO rM<|af fun F p0 p1 p2=>by
 have:=(@ah F az aA ay ax).mp p0
 try simp only[aa,ab]at *
 obtain⟨a10,ea10,qa10⟩:=ae ((E.I F aR)+(1))
 try simp only[ea10]at *
 grind
def aWW:List Fa:=[fK,ael,Vb,aiA,aeB,UN,afu,aic,Zw,ais,amj,afs,alC,adA,akK,acQ,aa8,Vl,aaz,alZ,W4,aaE,E7,ax6,aSe,avK,aFK,aw8,aUo,avU,aMQ,aXd,aol,aMO,aJL,aEo,av9,aKp,aLi,auI,aUm,ash,afF,aXU,aRr,aCb,aSE,aKQ,aNH,aFn,ayW,Xd,ac4,anK,aaO,al9,am0,YD,Zr,anh,Vp,ai9,aix,aae,VN,VY,afR,Vu,afG,ads,acf,ahg,amG,aob,aip,ZH,abT,ai5,afr,acj,aiz,amN,WO,akv,WX,acX,agP,am5,ahY,Wl]
theorem aQO:BodyOk Try.prog (xS (some oB)) oB (iw false).less (iw false).tmps {(iw false).st with pc:=(iw false).st.pc}:=
 kc good (facts:=fl aWW) (gh _) (anns:=[]) (gL _ (by kernel_rfl)) (nats:=fR.l) fR.h (n:=3000) (by kernel_rfl) (by kernel_rfl)
theorem aWe:BodyOk Try.prog (xS (some oB)) oB (iw false).less (iw false).tmps (iw false).st:=aQO
end
end Go.Proofs.Ytnnbmcfabojjjaa.payPlans
