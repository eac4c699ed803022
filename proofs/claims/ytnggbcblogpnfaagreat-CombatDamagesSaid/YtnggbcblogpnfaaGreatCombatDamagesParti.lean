/-
  CombatDamages: contracts of functions, part 9.
-/
import Derived.Test.YtnggbcblogpnfaaGreatCombatDamagesParth
namespace Go.Proofs.YtnggbcblogpnfaaGreat.combatDamages
open Go.ChangeShapes Go.WideShapes Go.ChangeAt Go.RowKit
open Go.SX
open Go.SX.E (fn pr cmp var)
set_option linter.unusedVariables false
set_option linter.unusedSimpArgs false
set_option maxRecDepth 100000
noncomputable section
abbrev V0:E:=var 11
abbrev V1:E:=cmp .eql V0 (.int 0)
abbrev V2:E:=.not (cmp .lss (.ar .add .i64 V0 (.int 1)) (.int 1))
abbrev V3:E:=var 1
abbrev V4:E:=.not (cmp .lss (.int 60) V3)
abbrev V5:E:=var 0
abbrev V6:E:=cmp .eql (fn 0 V5) V3
abbrev V7:E:=.not (cmp .lss V3 (.int 1))
abbrev V8:E:=cmp .lss V0 V3
abbrev V9:E:=var 9
abbrev BR:E:=cmp .eql V9 V0
abbrev V11:E:=cmp .lss V0 (.int 1)
abbrev V12:E:=.not V11
abbrev UV:=[V12]
abbrev rf:=BR::UV
abbrev V15:E:=.not (cmp .lss V3 V0)
abbrev Vi:=[V15]
abbrev BW:E:=.not (cmp .lss V3 (.ar .add .i64 V0 (.int 1)))
abbrev aH:E:=var 16
abbrev iO:E:=cmp .lss aH V9
abbrev kn:E:=.not iO
abbrev mo:E:=.not (cmp .lss V9 aH)
abbrev V22:E:=cmp .lss (fn 7 (pr V9 aH)) (.int 0)
abbrev Vk:E:=.not V22
abbrev lq:E:=.not (cmp .lss aH (.int 0))
abbrev bo:E:=var 8
abbrev nM:E:=cmp .eql (fn 0 bo) V9
abbrev xj:=[nM,BR]
abbrev Vl:=lq::xj
abbrev V29:=V7::Vl
abbrev V30:=V6::V29
abbrev V31:=V4::V30
abbrev V32:=V8::V31
abbrev BX:=iO::V32
abbrev BY:E:=.not (cmp .lss (.ar .add .i64 aH (.int 1)) (.int 0))
abbrev Jc:E:=fn 152 (pr bo (pr V5 V0))
abbrev Vm:E:=cmp .eql (.ar .add .i64 V0 (.int 1)) (.int 1)
abbrev BZ:E:=pr V5 (.ar .add .i64 V0 (.int 1))
abbrev V38:E:=pr (fn 23 (pr (fn 1 (pr V5 V0)) (fn 10 (.int 0)))) BZ
abbrev Vn:E:=fn 152 V38
abbrev V40:E:=cmp .lss (.int 2147483648) (fn 6 (pr (fn 7 (pr V9 aH)) (.int 1)))
abbrev Vo:E:=.not V40
abbrev Jd:E:=cmp .lss (fn 1 (pr bo aH)) (fn 1 (pr V5 V0))
abbrev Je:E:=fn 160 (pr bo (pr (fn 1 (pr V5 V0)) aH))
abbrev tV:E:=cmp .lss (fn 7 (pr V3 (.ar .add .i64 V0 (.int 1)))) (fn 7 (pr V3 V0))
abbrev Jf:E:=var 10
abbrev V46:E:=cmp .lss Jf V9
abbrev V47:E:=.not V46
abbrev V48:=[V47]
abbrev Vp:=nM::V48
abbrev V50:E:=cmp .lss Jf aH
abbrev Jg:E:=.not V50
abbrev xk:E:=cmp .eql Jf aH
abbrev tW:E:=.not (cmp .lss (fn 7 (pr V3 (.ar .add .i64 V0 (.int 1)))) (.int 0))
abbrev V54:=V4::V6::V7::mo::xj
abbrev Vq:=V8::V54
abbrev V56:E:=cmp .lss (.int 2147483648) aH
abbrev Vr:E:=.not V56
abbrev V58:=V7::xj
abbrev V59:=V6::V58
abbrev V60:=V4::V59
abbrev Jh:=V8::V60
abbrev V62:E:=cmp .lss (fn 6 (pr (fn 7 (pr V9 aH)) (.int 1))) (.int 0)
abbrev Vs:E:=.not V62
abbrev nN:E:=cmp .eql aH (.int 0)
abbrev Vt:E:=cmp .eql (fn 6 (pr (fn 7 (pr V9 aH)) (.int 1))) (.int 0)
abbrev Ji:=[nN,Vt,mo]
abbrev Vu:E:=cmp .eql (.ar .add .i64 V0 (.int 1)) (.int 0)
abbrev nO:=kn::nN::mo::rf
abbrev Vv:E:=cmp .lss (.int 0) (fn 6 (pr (fn 7 (pr V9 aH)) (.int 1)))
abbrev Jj:=[iO,nN,Vt]
abbrev V71:=V6::V7::rf
abbrev V72:=V4::V71
abbrev Jk:=V8::V72
abbrev V74:=nN::Jh
abbrev Jl:=iO::V74
abbrev Jm:=mo::nM::rf
abbrev Vw:=iO::nN::V8::V6::xj
abbrev Vx:E:=cmp .eql (fn 6 (pr (fn 7 (pr V9 aH)) (.int 1))) (.ar .add .i64 V0 (.int 1))
abbrev Vy:E:=cmp .eql (fn 6 (pr (fn 0 (fn 4 (pr bo (pr aH (fn 6 (pr aH (fn 7 (pr V9 aH)))))))) (.int 1))) (fn 6 (pr (fn 7 (pr V9 aH)) (.int 1)))
abbrev Vz:E:=cmp .eql (fn 6 (pr (fn 0 (fn 4 (pr bo (pr (.int 0) aH)))) (fn 6 (pr (fn 0 (fn 4 (pr bo (pr aH (fn 6 (pr aH (fn 7 (pr V9 aH)))))))) (.int 1))))) (fn 6 (pr aH (fn 6 (pr (fn 7 (pr V9 aH)) (.int 1)))))
abbrev V81:=nM::UV
abbrev V82:=Jc::V81
abbrev V83:=lq::V82
abbrev V84:=mo::V83
abbrev V85:=Je::V84
abbrev V86:=V6::V85
abbrev V87:=V4::V86
abbrev V88:=V8::V87
abbrev VA:=kn::V88
abbrev V90:E:=pr (fn 3 (pr (fn 23 (pr (fn 1 (pr V5 V0)) (fn 10 (.int 0)))) (fn 4 (pr bo (pr aH (fn 6 (pr aH (fn 7 (pr V9 aH))))))))) BZ
abbrev VB:E:=fn 152 V90
abbrev V92:E:=pr (fn 3 (pr (fn 4 (pr bo (pr (.int 0) aH))) (fn 3 (pr (fn 23 (pr (fn 1 (pr V5 V0)) (fn 10 (.int 0)))) (fn 4 (pr bo (pr aH (fn 6 (pr aH (fn 7 (pr V9 aH))))))))))) BZ
abbrev VC:E:=fn 152 V92
abbrev V94:=V6::Je::lq::Jc::xj
abbrev V95:=V4::V94
abbrev VD:=V8::V95
abbrev V97:E:=cmp .lss bo (.int 0)
abbrev VE:E:=.not V97
abbrev VF:=[VE]
abbrev BS:E:=.bool false
abbrev axx:E:=cmp .lss (.int 12) (fn 9 (pr V5 (.int 14)))
abbrev UG:E:=.not axx
abbrev axy:E:=pr V5 (fn 9 (pr V5 (.int 14)))
abbrev axz:E:=fn 155 axy
abbrev UH:E:=.and UG axz
abbrev UI:E:=cmp .lss bo (.int 13)
abbrev I4:E:=cmp .lss bo (fn 9 (pr V5 (.int 14)))
abbrev UJ:E:=.imp UG UH
abbrev UK:E:=fn 155 (pr V5 bo)
abbrev BT:E:=cmp .lss aH (fn 9 (pr (fn 1 (pr V5 (fn 6 (pr (fn 8 (pr bo (.int 14))) (.int 12))))) (.int 2)))
abbrev axA:E:=cmp .lss (.int 3) (fn 9 (pr (fn 1 (pr V5 (fn 6 (pr (fn 8 (pr bo (.int 14))) (.int 12))))) (.int 2)))
abbrev UL:E:=.not axA
abbrev axB:=[UL]
abbrev I5:=lq::axB
abbrev UM:=BT::I5
abbrev tU:=UI::VF
abbrev axC:E:=cmp .lss (fn 9 (pr (fn 1 (pr V5 (fn 6 (pr (fn 8 (pr bo (.int 14))) (.int 12))))) (.int 2))) aH
abbrev UN:E:=.not axC
abbrev axD:=UN::I5
abbrev UO:=BT::axD
abbrev axE:E:=pr (fn 1 (pr V5 (fn 6 (pr (fn 8 (pr bo (.int 14))) (.int 12))))) aH
abbrev UP:E:=fn 157 axE
abbrev BU:E:=cmp .lss (.int 40) (fn 0 (fn 1 (pr V5 (.int 6))))
abbrev nL:E:=.imp BS (fn 117 V5)
abbrev UQ:E:=cmp .lss (.int 40) (fn 0 (fn 1 (pr V5 (.int 7))))
abbrev UR:E:=cmp .lss (.int 40) (fn 0 (fn 1 (pr V5 (.int 8))))
abbrev US:E:=cmp .lss (.int 40) (fn 0 (fn 1 (pr V5 (.int 9))))
abbrev UT:E:=cmp .lss (.int 40) (fn 0 (fn 1 (pr V5 (.int 20))))
abbrev UU:E:=cmp .lss (.int 40) (fn 0 (fn 1 (pr V5 (.int 21))))
abbrev UW:E:=cmp .lss (.int 40) (fn 0 (fn 1 (pr V5 (.int 22))))
abbrev UX:E:=cmp .lss (.int 40) (fn 0 (fn 1 (pr V5 (.int 23))))
abbrev I6:E:=fn 159 V5
abbrev axF:E:=cmp .lss (.int 20) (fn 9 (pr (fn 1 (pr V5 (.int 29))) (.int 5)))
abbrev UY:E:=.not axF
abbrev I7:E:=.and UY (fn 158 (pr (fn 1 (pr V5 (.int 29))) (fn 9 (pr (fn 1 (pr V5 (.int 29))) (.int 5)))))
abbrev axG:E:=cmp .lss (.int 20) (fn 9 (pr (fn 1 (pr V5 (.int 30))) (.int 5)))
abbrev UZ:E:=.not axG
abbrev I8:E:=.and UZ (fn 158 (pr (fn 1 (pr V5 (.int 30))) (fn 9 (pr (fn 1 (pr V5 (.int 30))) (.int 5)))))
abbrev BV:E:=.imp (.not (cmp .lss bo (.int 1))) I7
abbrev axH:E:=cmp .lss bo (.int 2)
abbrev Va:E:=.not axH
abbrev I9:E:=.imp Va I8
abbrev xi:E:=cmp .lss aH (fn 9 (pr (fn 1 (pr V5 (.int 29))) (.int 5)))
abbrev Ja:=[UY]
abbrev axI:=lq::Ja
abbrev Vb:=xi::axI
abbrev axJ:E:=pr (fn 1 (pr V5 (.int 29))) aH
abbrev Vc:E:=fn 158 axJ
abbrev axK:E:=cmp .lss (.ar .add .i64 bo (.int 1)) (.int 1)
abbrev axL:E:=.not axK
abbrev Vd:E:=.imp axL I7
abbrev Jb:E:=cmp .lss aH (fn 9 (pr (fn 1 (pr V5 (.int 30))) (.int 5)))
abbrev Ve:=[UZ]
abbrev Vf:=lq::Ve
abbrev Vg:=Jb::Vf
abbrev axM:E:=cmp .lss (.ar .add .i64 bo (.int 1)) (.int 2)
abbrev axN:E:=.not axM
abbrev Vh:E:=.imp axN I8
abbrev axO:E:=pr (fn 1 (pr V5 (.int 30))) aH
abbrev Vj:E:=fn 158 axO
def alC:=fb [V1] V2<|ak fun ρ p0=>by
 simp only[aa,ae]at *
 obtain⟨a,b,c⟩:=ab (E.I ρ V0+1)
 omega
def alD:=fb [V1,V4,V6,V7] V8<|aF fun ρ p0 p1 p2 p3=>by
 simp only[aa]at *;omega
def alE:=fb rf (.not (cmp .lss V9 (.int 0)))<|au fun ρ p0 p1=>by
 simp only[aa]at *;omega
def alF:=fb ((.not V8)::V6::BR::Vi) (cmp .eql V9 V3)<|aF fun ρ p0 p1 p2 p3=>by
 simp only[aa]at *;omega
def alG:=fb [V8,V1,V4,V6] BW<|aF fun ρ p0 p1 p2 p3=>by
 simp only[aa,ae]at *
 obtain⟨a,b,c⟩:=ab (E.I ρ V0+1)
 omega
def alH:=fb [kn,mo] Vk<|au fun ρ p0 p1=>by
 simp only[aa]at *;omega
def alI:=fb BX BY<|dO fun ρ p0 p1 p2 p3 p4 p5 p6 p7=>by
 simp only[aa,ae]at *
 obtain⟨a,b,c⟩:=ab (E.I ρ aH+1)
 omega
def alJ:=fb [iO,nM] Vk<|au fun ρ p0 p1=>by
 simp only[aa]at *;omega
def alK:=fa ((fn 160 (pr bo (pr (fn 1 (pr V5 V0)) (.int 0)))))<|fun ρ=>by
 rfl
def alL:=fb ((.not V8)::Jc::Vi) (fn 152 (pr bo (pr V5 V3)))<|ay fun ρ p0 p1 p2=>by
 have:=@aIH ρ _ _ _ V3 p1
 simp only[aa]at *;grind
def PH:=fb [V1] Vm<|ak fun ρ p0=>by
 simp only[aa,ae]at *
 obtain⟨a,b,c⟩:=ab (E.I ρ V0+1)
 omega
def alM:=fa ((.not (cmp .lss V9 (fn 6 (pr aH (fn 7 (pr V9 aH)))))))<|fun ρ=>by
 simp only[aa]at *;omega
def alN:=fb BX (.not (cmp .lss V9 (.ar .add .i64 aH (.int 1))))<|dO fun ρ p0 p1 p2 p3 p4 p5 p6 p7=>by
 simp only[aa,ae]at *
 obtain⟨a,b,c⟩:=ab (E.I ρ aH+1)
 omega
def alO:=fb [V8,V1,V4,V6,V7] Vn<|bl fun ρ p0 p1 p2 p3 p4=>by
 have:=@bY ρ V0 (.int 1)
 have:=@aII ρ _ (.int 0) _ (.ar .add .i64 V0 (.int 1)) (fn 1 (pr V5 V0)) rfl
 simp only[aa]at *;grind
def alP:=fb [kn,mo] Vo<|au fun ρ p0 p1=>by
 simp only[aa]at *;omega
def alQ:=fb (iO::Jd::V8::V4::Je::Vl) (fn 160 (pr bo (pr (fn 1 (pr V5 V0)) (.ar .add .i64 aH (.int 1)))))<|dO fun ρ p0 p1 p2 p3 p4 p5 p6 p7=>by
 have:=@bY ρ aH (.int 1)
 have:=@aIO ρ bo aH (.ar .add .i64 aH (.int 1)) (fn 1 (pr V5 V0))
 simp only[aa]at *;grind
def alR:=fb [V8,V4,V6,V7,lq,BR] Vo<|cz fun ρ p0 p1 p2 p3 p4 p5=>by
 simp only[aa]at *;omega
def alS:=fb [V1] tV<|ak fun ρ p0=>by
 simp only[aa,ae]at *
 obtain⟨a,b,c⟩:=ab (E.I ρ V0+1)
 omega
def alT:=fb (kn::mo::Vp) Jg<|aF fun ρ p0 p1 p2 p3=>by
 simp only[aa]at *;omega
def alU:=fb [xk] Jg<|ak fun ρ p0=>by
 simp only[aa]at *;omega
def alV:=fb BX (cmp .lss (fn 7 (pr V9 (.ar .add .i64 aH (.int 1)))) (fn 7 (pr V9 aH)))<|dO fun ρ p0 p1 p2 p3 p4 p5 p6 p7=>by
 simp only[aa,ae]at *
 obtain⟨a,b,c⟩:=ab (E.I ρ aH+1)
 omega
def alW:=fb (iO::Vp) Jg<|ay fun ρ p0 p1 p2=>by
 simp only[aa]at *;omega
def alX:=fb [V8,V1,V4,V6] tW<|aF fun ρ p0 p1 p2 p3=>by
 simp only[aa,ae]at *
 obtain⟨a,b,c⟩:=ab (E.I ρ V0+1)
 omega
def alY:=fb (kn::Vq) Vr<|dO fun ρ p0 p1 p2 p3 p4 p5 p6 p7=>by
 simp only[aa]at *;omega
def alZ:=fb BX (.not (cmp .lss (fn 7 (pr V9 (.ar .add .i64 aH (.int 1)))) (.int 0)))<|dO fun ρ p0 p1 p2 p3 p4 p5 p6 p7=>by
 simp only[aa,ae]at *
 obtain⟨a,b,c⟩:=ab (E.I ρ aH+1)
 omega
def al0:=fb (iO::Jh) Vr<|eZ fun ρ p0 p1 p2 p3 p4 p5 p6=>by
 simp only[aa]at *;omega
def al1:=fb [kn,mo] Vs<|au fun ρ p0 p1=>by
 simp only[aa]at *;omega
def al2:=fb (kn::xk::Vq) (.not (cmp .lss (.int 2147483648) (fn 6 (pr aH (.int 1)))))<|fB fun ρ p0 p1 p2 p3 p4 p5 p6 p7 p8=>by
 simp only[aa]at *;omega
def al3:=fb [iO,nM] Vs<|au fun ρ p0 p1=>by
 simp only[aa]at *;omega
def al4:=fb Ji Vu<|ay fun ρ p0 p1 p2=>by
 simp only[aa]at *;omega
def al5:=fb nO Vv<|bl fun ρ p0 p1 p2 p3 p4=>by
 simp only[aa]at *;omega
def al6:=fb Jh (.not (cmp .lss (.int 2147483648) (fn 6 (pr aH (fn 6 (pr (fn 7 (pr V9 aH)) (.int 1)))))))<|cz fun ρ p0 p1 p2 p3 p4 p5=>by
 simp only[aa]at *;omega
def al7:=fb Jj Vu<|ay fun ρ p0 p1 p2=>by
 simp only[aa]at *;omega
def al8:=fb [iO,nN,nM] Vv<|ay fun ρ p0 p1 p2=>by
 simp only[aa]at *;omega
def al9:=fb Ji tV<|ay fun ρ p0 p1 p2=>by
 simp only[aa]at *;omega
def ama:=fb nO V2<|bl fun ρ p0 p1 p2 p3 p4=>by
 simp only[aa]at *;omega
def amb:=fb Jk V2<|cz fun ρ p0 p1 p2 p3 p4 p5=>by
 simp only[aa,ae]at *
 obtain⟨a,b,c⟩:=ab (E.I ρ V0+1)
 omega
def amc:=fb (kn::xk::nN::mo::rf) Vm<|cz fun ρ p0 p1 p2 p3 p4 p5=>by
 simp only[aa]at *;omega
def amd:=fb Jj tV<|ay fun ρ p0 p1 p2=>by
 simp only[aa]at *;omega
def ame:=fb Jl V2<|dO fun ρ p0 p1 p2 p3 p4 p5 p6 p7=>by
 simp only[aa,ae]at *
 obtain⟨a,b,c⟩:=ab (E.I ρ V0+1)
 omega
def amf:=fb Ji tW<|ay fun ρ p0 p1 p2=>by
 simp only[aa]at *;omega
def amg:=fb nO BW<|bl fun ρ p0 p1 p2 p3 p4=>by
 simp only[aa]at *;omega
def amh:=fb (V8::V6::rf) BW<|aF fun ρ p0 p1 p2 p3=>by
 simp only[aa,ae]at *
 obtain⟨a,b,c⟩:=ab (E.I ρ V0+1)
 omega
def ami:=fb nO Vn<|bl fun ρ p0 p1 p2 p3 p4=>by
 simp only[aa]at *;grind
def amj:=fb (kn::xk::V8::V4::V6::V7::Jm) (cmp .eql (fn 6 (pr aH (.int 1))) (.ar .add .i64 V0 (.int 1)))<|jh fun ρ p0 p1 p2 p3 p4 p5 p6 p7 p8 p9=>by
 simp only[aa,ae]at *
 obtain⟨a,b,c⟩:=ab (E.I ρ V0+1)
 omega
def amk:=fb Jj tW<|ay fun ρ p0 p1 p2=>by
 simp only[aa]at *;omega
def aml:=fb Vw BW<|cz fun ρ p0 p1 p2 p3 p4 p5=>by
 simp only[aa,ae]at *
 obtain⟨a,b,c⟩:=ab (E.I ρ V0+1)
 omega
def amm:=fb nO Vx<|bl fun ρ p0 p1 p2 p3 p4=>by
 simp only[aa]at *;omega
def amn:=fb Jk (cmp .eql (fn 6 (pr aH (fn 6 (pr (fn 7 (pr V9 aH)) (.int 1))))) (.ar .add .i64 V0 (.int 1)))<|cz fun ρ p0 p1 p2 p3 p4 p5=>by
 simp only[aa,ae]at *
 obtain⟨a,b,c⟩:=ab (E.I ρ V0+1)
 omega
def amo:=fb (kn::xk::Jm) (cmp .eql (fn 6 (pr (fn 0 (fn 4 (pr bo (pr (.int 0) aH)))) (.int 1))) (fn 6 (pr aH (.int 1))))<|cz fun ρ p0 p1 p2 p3 p4 p5=>by
 have:=@u7 ρ bo (.int 0) aH
 simp only[aa]at *;omega
def amp:=fb Jl Vx<|dO fun ρ p0 p1 p2 p3 p4 p5 p6 p7=>by
 simp only[aa,ae]at *
 obtain⟨a,b,c⟩:=ab (E.I ρ V0+1)
 omega
def amq:=fb nO Vy<|bl fun ρ p0 p1 p2 p3 p4=>by
 simp only[aa]at *;omega
def amr:=fb (kn::Jm) Vz<|bl fun ρ p0 p1 p2 p3 p4=>by
 have:=@u7 ρ bo (.int 0) aH
 have:=@u7 ρ bo aH (fn 6 (pr aH (fn 7 (pr V9 aH))))
 simp only[aa]at *;omega
def ams:=fb VA (fn 152 (pr (fn 3 (pr (fn 4 (pr bo (pr (.int 0) aH))) (fn 23 (pr (fn 1 (pr V5 V0)) (fn 10 (.int 0)))))) BZ))<|jh fun ρ p0 p1 p2 p3 p4 p5 p6 p7 p8 p9=>by
 have:=@bY ρ V0 (.int 1)
 have:=@Gl ρ _ _ _ _ (.ar .add .i64 V0 (.int 1)) _ (fn 0 bo) p7 p4 rfl
 simp only[aa]at *;grind
def amt:=fb [iO,nN,nM] Vy<|ay fun ρ p0 p1 p2=>by
 have:=@u7 ρ bo aH (fn 6 (pr aH (fn 7 (pr V9 aH))))
 simp only[aa]at *;omega
def amu:=fb [iO,lq,nM] Vz<|ay fun ρ p0 p1 p2=>by
 have:=@u7 ρ bo (.int 0) aH
 have:=@u7 ρ bo aH (fn 6 (pr aH (fn 7 (pr V9 aH))))
 simp only[aa]at *;omega
def amv:=fb nO VB<|bl fun ρ p0 p1 p2 p3 p4=>by
 simp only[aa]at *;grind
def amw:=fb VA VC<|jh fun ρ p0 p1 p2 p3 p4 p5 p6 p7 p8 p9=>by
 have:=@bY ρ V0 (.int 1)
 have:=@Gl ρ _ _ _ _ (.ar .add .i64 V0 (.int 1)) _ (fn 6 (pr aH (fn 7 (pr V9 aH)))) p7 p4 rfl
 simp only[aa]at *;grind
def amx:=fb (iO::(.not Jd)::nN::VD) VB<|kG fun ρ p0 p1 p2 p3 p4 p5 p6 p7 p8 p9 am=>by
 have:=@bY ρ V0 (.int 1)
 have:=@Gl ρ _ _ _ _ (.ar .add .i64 V0 (.int 1)) _ (fn 6 (pr aH (fn 7 (pr V9 aH)))) p8 p6 rfl
 simp only[aa]at *;grind
def amy:=fb (iO::(.not Jd)::VD) VC<|jh fun ρ p0 p1 p2 p3 p4 p5 p6 p7 p8 p9=>by
 have:=@bY ρ V0 (.int 1)
 have:=@Gl ρ _ _ _ _ (.ar .add .i64 V0 (.int 1)) _ (fn 6 (pr aH (fn 7 (pr V9 aH)))) p7 p5 rfl
 simp only[aa]at *;grind
def amz:=fb nO tV<|bl fun ρ p0 p1 p2 p3 p4=>by
 simp only[aa]at *;omega
def amA:=fb Jk tV<|cz fun ρ p0 p1 p2 p3 p4 p5=>by
 simp only[aa,ae]at *
 obtain⟨a,b,c⟩:=ab (E.I ρ V0+1)
 omega
def amB:=fb Jl tV<|dO fun ρ p0 p1 p2 p3 p4 p5 p6 p7=>by
 simp only[aa,ae]at *
 obtain⟨a,b,c⟩:=ab (E.I ρ V0+1)
 omega
def amC:=fb nO tW<|bl fun ρ p0 p1 p2 p3 p4=>by
 simp only[aa]at *;omega
def amD:=fb (V8::V6::rf) tW<|aF fun ρ p0 p1 p2 p3=>by
 simp only[aa,ae]at *
 obtain⟨a,b,c⟩:=ab (E.I ρ V0+1)
 omega
def amE:=fb Vw tW<|cz fun ρ p0 p1 p2 p3 p4 p5=>by
 simp only[aa,ae]at *
 obtain⟨a,b,c⟩:=ab (E.I ρ V0+1)
 omega
def fO:List Fa:=[alC,alD,alE,alF,alG,alH,alI,alJ,alK,alL,PH,alM,alN,alO,alP,alQ,alR,alS,alT,alU,alV,alW,alX,alY,alZ,al0,al1,al2,al3,al4,al5,al6,al7,al8,al9,ama,amb,amc,amd,ame,amf,amg,amh,ami,amj,amk,aml,amm,amn,amo,amp,amq,amr,ams,amt,amu,amv,amw,amx,amy,amz,amA,amB,amC,amD,amE]
theorem aHe:aV Tryz.prog (bz (aGL)):=sc fO (aBo) acm ([]) (by kernel_rfl) (by kernel_rfl)
def aco:Nl:=nc aHe acm
def amF:=fa ((fn 155 (pr V5 (.int 0))))<|fun ρ=>by
 rfl
def amG:=fb VF (.imp BS UH)<|ak fun ρ p0=>by
 rfl
def amH:=fa ((fn 157 (pr (fn 1 (pr V5 (fn 6 (pr (fn 8 (pr bo (.int 14))) (.int 12))))) (.int 0))))<|fun ρ=>by
 rfl
def amI:=fb [(.not UI),I4] UJ<|au fun ρ p0 p1=>by
 simp only[aa]at *;grind
def amJ:=fb [(.not I4),UK,(.not (cmp .lss (fn 9 (pr V5 (.int 14))) bo))] UJ<|ay fun ρ p0 p1 p2=>by
 have:=@aIK ρ bo (fn 9 (pr V5 (.int 14))) V5
 simp only[aa]at *;grind
def amK:=fb UM BY<|ay fun ρ p0 p1 p2=>by
 simp only[aa,ae]at *
 obtain⟨a,b,c⟩:=ab (E.I ρ aH+1)
 omega
def amL:=fb tU (.not (cmp .lss (.ar .add .i64 bo (.int 1)) (.int 0)))<|au fun ρ p0 p1=>by
 simp only[aa,ae]at *
 obtain⟨a,b,c⟩:=ab (E.I ρ bo+1)
 omega
def amM:=fb UO (.not (cmp .lss (fn 9 (pr (fn 1 (pr V5 (fn 6 (pr (fn 8 (pr bo (.int 14))) (.int 12))))) (.int 2))) (.ar .add .i64 aH (.int 1))))<|aF fun ρ p0 p1 p2 p3=>by
 simp only[aa,ae]at *
 obtain⟨a,b,c⟩:=ab (E.I ρ aH+1)
 omega
def amN:=fb tU (.not (cmp .lss (.int 13) (.ar .add .i64 bo (.int 1))))<|au fun ρ p0 p1=>by
 simp only[aa,ae]at *
 obtain⟨a,b,c⟩:=ab (E.I ρ bo+1)
 omega
def amO:=fb (BT::(.not (cmp .lss (.int 5) (fn 9 (pr (fn 1 (pr (fn 1 (pr V5 (fn 6 (pr (fn 8 (pr bo (.int 14))) (.int 12))))) (fn 6 (pr (fn 8 (pr aH (.int 2))) (.int 1))))) (.int 5)))))::UP::I5) (fn 157 (pr (fn 1 (pr V5 (fn 6 (pr (fn 8 (pr bo (.int 14))) (.int 12))))) (.ar .add .i64 aH (.int 1))))<|bl fun ρ p0 p1 p2 p3 p4=>by
 have:=@bY ρ aH (.int 1)
 have:=@aIM ρ aH (.ar .add .i64 aH (.int 1)) (fn 1 (pr V5 (fn 6 (pr (fn 8 (pr bo (.int 14))) (.int 12)))))
 simp only[aa]at *;grind
def amP:=fb (I4::tU) (.not (cmp .lss (fn 9 (pr V5 (.int 14))) (.ar .add .i64 bo (.int 1))))<|ay fun ρ p0 p1 p2=>by
 simp only[aa,ae]at *
 obtain⟨a,b,c⟩:=ab (E.I ρ bo+1)
 omega
def amQ:=fb UM (cmp .lss (fn 7 (pr (fn 9 (pr (fn 1 (pr V5 (fn 6 (pr (fn 8 (pr bo (.int 14))) (.int 12))))) (.int 2))) (.ar .add .i64 aH (.int 1)))) (fn 7 (pr (fn 9 (pr (fn 1 (pr V5 (fn 6 (pr (fn 8 (pr bo (.int 14))) (.int 12))))) (.int 2))) aH)))<|ay fun ρ p0 p1 p2=>by
 simp only[aa,ae]at *
 obtain⟨a,b,c⟩:=ab (E.I ρ aH+1)
 omega
def amR:=fb ((.not BT)::UP::UN::UL::(.not (cmp .lss (.int 5) (fn 9 (pr (fn 1 (pr V5 (fn 6 (pr (fn 8 (pr bo (.int 14))) (.int 11))))) (.int 5)))))::UK::tU) (fn 155 (pr V5 (.ar .add .i64 bo (.int 1))))<|dO fun ρ p0 p1 p2 p3 p4 p5 p6 p7=>by
 have:=@bY ρ bo (.int 1)
 have:=@aIL ρ bo (.ar .add .i64 bo (.int 1)) V5
 have:=@aJ6 ρ (fn 1 (pr V5 (fn 6 (pr (fn 8 (pr bo (.int 14))) (.int 11))))) (fn 1 (pr V5 (fn 6 (pr (fn 8 (pr bo (.int 14))) (.int 12)))))
 have hy1:E.I ρ aH=E.I ρ (fn 9 (pr (fn 1 (pr V5 (fn 6 (pr (fn 8 (pr bo (.int 14))) (.int 12))))) (.int 2)))->E.B ρ (fn 157 (pr (fn 1 (pr V5 (fn 6 (pr (fn 8 (pr bo (.int 14))) (.int 12))))) (fn 9 (pr (fn 1 (pr V5 (fn 6 (pr (fn 8 (pr bo (.int 14))) (.int 12))))) (.int 2)))))=true:=fun hh=>by simp_all[agc]
 simp only[aa]at *;grind
def amS:=fb UO (.not (cmp .lss (fn 7 (pr (fn 9 (pr (fn 1 (pr V5 (fn 6 (pr (fn 8 (pr bo (.int 14))) (.int 12))))) (.int 2))) (.ar .add .i64 aH (.int 1)))) (.int 0)))<|aF fun ρ p0 p1 p2 p3=>by
 simp only[aa,ae]at *
 obtain⟨a,b,c⟩:=ab (E.I ρ aH+1)
 omega
def amT:=fb tU (cmp .lss (fn 7 (pr (.int 13) (.ar .add .i64 bo (.int 1)))) (fn 7 (pr (.int 13) bo)))<|au fun ρ p0 p1=>by
 simp only[aa,ae]at *
 obtain⟨a,b,c⟩:=ab (E.I ρ bo+1)
 omega
def amU:=fb tU (.not (cmp .lss (fn 7 (pr (.int 13) (.ar .add .i64 bo (.int 1)))) (.int 0)))<|au fun ρ p0 p1=>by
 simp only[aa,ae]at *
 obtain⟨a,b,c⟩:=ab (E.I ρ bo+1)
 omega
def gt:List Fa:=[amF,amG,amH,amI,amJ,amK,amL,amM,amN,amO,amP,amQ,amR,amS,amT,amU]
theorem aHf:aV Tryz.prog (bz (aGG)):=sc gt (aBg) aco ([]) (by kernel_rfl) (by kernel_rfl)
def acp:Nl:=nc aHf aco
def amV:=fb [BU] nL<|ak fun ρ p0=>by
 rfl
def amW:=fb [UQ] nL<|ak fun ρ p0=>by
 rfl
def amX:=fb [UR] nL<|ak fun ρ p0=>by
 rfl
def amY:=fb [US] nL<|ak fun ρ p0=>by
 rfl
def amZ:=fb [UT] nL<|ak fun ρ p0=>by
 rfl
def am0:=fb [UU] nL<|ak fun ρ p0=>by
 rfl
def am1:=fb [UW] nL<|ak fun ρ p0=>by
 rfl
def am2:=fb [UX] nL<|ak fun ρ p0=>by
 rfl
def am3:=fb [(.not BU),(.not UQ),(.not UR),(.not US),(.not UT),(.not UU),(.not UW),(.not UX)] I6<|dO fun ρ p0 p1 p2 p3 p4 p5 p6 p7=>by
 have:=@o7 ρ V5
 simp only[aa]at *;grind
def am4:=fb [(.not BU)] (.imp BS I7)<|ak fun ρ p0=>by
 rfl
def am5:=fb [(.not BU)] (.imp BS I8)<|ak fun ρ p0=>by
 rfl
def am6:=fb [I6] nL<|ak fun ρ p0=>by
 rfl
def am7:=fb [BV] BV<|ak fun ρ p0=>by
 omega
def am8:=fb [Va,(.not (cmp .lss (.int 30) (fn 9 (pr (fn 1 (pr V5 (.int 0))) (.int 12))))),(.not (cmp .lss (.int 30) (fn 0 (fn 1 (pr V5 (.int 31)))))),I9,BV,I6] (.imp (.not (cmp .lss (.int 30) (fn 9 (pr (fn 1 (pr V5 (.int 32))) (.int 2))))) (fn 117 V5))<|cz fun ρ p0 p1 p2 p3 p4 p5=>by
 have:=@jt ρ V5
 simp only[aa]at *;grind
def am9:=fb [I9] I9<|ak fun ρ p0=>by
 omega
def ana:=fa ((fn 158 (pr (fn 1 (pr V5 (.int 29))) (.int 0))))<|fun ρ=>by
 rfl
def anb:=fa ((fn 158 (pr (fn 1 (pr V5 (.int 30))) (.int 0))))<|fun ρ=>by
 rfl
def anc:=fb Vb BY<|ay fun ρ p0 p1 p2=>by
 simp only[aa,ae]at *
 obtain⟨a,b,c⟩:=ab (E.I ρ aH+1)
 omega
def ane:=fb ((.not xi)::Vc::(.not (cmp .lss (fn 9 (pr (fn 1 (pr V5 (.int 29))) (.int 5))) aH))::Ja) Vd<|aF fun ρ p0 p1 p2 p3=>by
 have:=@afp ρ (fn 1 (pr V5 (.int 29))) aH (fn 9 (pr (fn 1 (pr V5 (.int 29))) (.int 5)))
 simp only[aa]at *;grind
def anf:=fb Vg BY<|ay fun ρ p0 p1 p2=>by
 simp only[aa,ae]at *
 obtain⟨a,b,c⟩:=ab (E.I ρ aH+1)
 omega
def ang:=fb [(cmp .eql bo (.int 1)),BV] Vd<|au fun ρ p0 p1=>by
 simp only[aa]at *;simp_all
def anh:=fb [xi,lq] (.not (cmp .lss (fn 9 (pr (fn 1 (pr V5 (.int 29))) (.int 5))) (.ar .add .i64 aH (.int 1))))<|au fun ρ p0 p1=>by
 simp only[aa,ae]at *
 obtain⟨a,b,c⟩:=ab (E.I ρ aH+1)
 omega
def ani:=fb [(.not (cmp .lss (.int 2) bo)),VE,(cmp .eql bo (.int 0))] Vh<|ay fun ρ p0 p1 p2=>by
 simp only[aa,ae]at *
 obtain⟨a,b,c⟩:=ab (E.I ρ bo+1)
 omega
def anj:=fb ((.not Jb)::Vj::(.not (cmp .lss (fn 9 (pr (fn 1 (pr V5 (.int 30))) (.int 5))) aH))::Ve) Vh<|aF fun ρ p0 p1 p2 p3=>by
 have:=@afp ρ (fn 1 (pr V5 (.int 30))) aH (fn 9 (pr (fn 1 (pr V5 (.int 30))) (.int 5)))
 simp only[aa]at *;grind
def ank:=fb (xi::(.not (cmp .lss (.int 6) (fn 9 (pr (fn 1 (pr (fn 1 (pr V5 (.int 29))) (fn 6 (pr (fn 8 (pr aH (.int 5))) (.int 4))))) (.int 2)))))::lq::Vc::Ja) (fn 158 (pr (fn 1 (pr V5 (.int 29))) (.ar .add .i64 aH (.int 1))))<|bl fun ρ p0 p1 p2 p3 p4=>by
 have:=@bY ρ aH (.int 1)
 have:=@afq ρ (fn 1 (pr V5 (.int 29))) aH (.ar .add .i64 aH (.int 1))
 simp only[aa]at *;grind
def anl:=fb (Jb::(.not (cmp .lss (.int 6) (fn 9 (pr (fn 1 (pr (fn 1 (pr V5 (.int 30))) (fn 6 (pr (fn 8 (pr aH (.int 5))) (.int 4))))) (.int 2)))))::Vj::Vf) (fn 158 (pr (fn 1 (pr V5 (.int 30))) (.ar .add .i64 aH (.int 1))))<|bl fun ρ p0 p1 p2 p3 p4=>by
 have:=@bY ρ aH (.int 1)
 have:=@afq ρ (fn 1 (pr V5 (.int 30))) aH (.ar .add .i64 aH (.int 1))
 simp only[aa]at *;grind
def anm:=fb Vb (cmp .lss (fn 7 (pr (fn 9 (pr (fn 1 (pr V5 (.int 29))) (.int 5))) (.ar .add .i64 aH (.int 1)))) (fn 7 (pr (fn 9 (pr (fn 1 (pr V5 (.int 29))) (.int 5))) aH)))<|ay fun ρ p0 p1 p2=>by
 simp only[aa,ae]at *
 obtain⟨a,b,c⟩:=ab (E.I ρ aH+1)
 omega
def ann:=fb Vg (cmp .lss (fn 7 (pr (fn 9 (pr (fn 1 (pr V5 (.int 30))) (.int 5))) (.ar .add .i64 aH (.int 1)))) (fn 7 (pr (fn 9 (pr (fn 1 (pr V5 (.int 30))) (.int 5))) aH)))<|ay fun ρ p0 p1 p2=>by
 simp only[aa,ae]at *
 obtain⟨a,b,c⟩:=ab (E.I ρ aH+1)
 omega
def ano:=fb [xi,lq] (.not (cmp .lss (fn 7 (pr (fn 9 (pr (fn 1 (pr V5 (.int 29))) (.int 5))) (.ar .add .i64 aH (.int 1)))) (.int 0)))<|au fun ρ p0 p1=>by
 simp only[aa,ae]at *
 obtain⟨a,b,c⟩:=ab (E.I ρ aH+1)
 omega
def iC:List Fa:=[amV,amW,amX,amY,amZ,am0,am1,am2,am3,am4,am5,am6,am7,am8,am9,ana,anb,Qg,Qk,Ql,Qm,anc,ane,anf,ang,anh,ani,PF,anj,ank,Pf,anl,Pg,anm,Ph,ann,Pi,ano,PG]
theorem aHh:aV Tryz.prog (bz (aGN)):=sc iC (aBp) acp ([]) (by kernel_rfl) (by kernel_rfl)
def acq:Nl:=nc aHh acp
end
end Go.Proofs.YtnggbcblogpnfaaGreat.combatDamages
