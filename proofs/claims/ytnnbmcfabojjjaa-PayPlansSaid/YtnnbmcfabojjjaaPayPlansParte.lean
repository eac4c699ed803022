/-
  PayPlans: contracts of functions, part 5.
-/
import Derived.Test.YtnnbmcfabojjjaaRows
import Derived.Test.YtnnbmcfabojjjaaNat
import Derived.WalkKit
import Derived.ProofKit
import Derived.OpenShut
import Derived.ChangeOld
import Derived.Below
import Derived.KernelRfl
import Derived.Lib.SmallJoins
import Derived.Laws.IdiomArrays
import Derived.Test.YtnnbmcfabojjjaaPayPlansPartd
namespace Go.Proofs.Ytnnbmcfabojjjaa.payPlans
open Go.ChangeShapes Go.WideShapes Go.ChangeAt Go.RowKit
open Go.SX
open Go.SX.E (fn pr cmp var)
set_option linter.unusedVariables false
set_option linter.unusedSimpArgs false
set_option maxRecDepth 100000
noncomputable section
abbrev Z0:E:=var 0
abbrev Z1:E:=var 8
abbrev Z2:E:=cmp .lss Z1 (fn 0 (fn 1 (pr Z0 (.int 31))))
abbrev Z3:E:=fn 117 Z0
abbrev Z4:E:=pr Z0 Z1
abbrev Z5:E:=fn 126 Z4
abbrev Z6:E:=pr Z0 (fn 0 (fn 1 (pr Z0 (.int 31))))
abbrev Z7:E:=fn 126 Z6
abbrev Z8:E:=cmp .eql (fn 1 (pr Z0 (.int 34))) (.int 0)
abbrev Z9:E:=cmp .eql (var 10) (fn 121 (pr (fn 1 (pr Z0 (.int 22))) (fn 1 (pr (fn 1 (pr Z0 (.int 31))) Z1))))
abbrev Ee:E:=cmp .eql (var 10) (.int 1)
abbrev Z11:E:=cmp .lss (.int 1) (fn 1 (pr Z0 (.int 34)))
abbrev Ar:E:=.not Z11
abbrev Z13:E:=cmp .lss (fn 1 (pr Z0 (.int 34))) (.int 0)
abbrev B2:E:=.not Z13
abbrev Z15:E:=cmp .lss Z1 (.int 0)
abbrev Z16:E:=.not Z15
abbrev IN:=[Z16]
abbrev Ou:=Z5::IN
abbrev Z19:=B2::Ou
abbrev Z20:=Ar::Z19
abbrev ro:E:=.bool false
abbrev PI:E:=fn 129 Z0
abbrev rP:E:=.iff ro PI
abbrev Z24:E:=cmp .eql (var 10) (fn 121 (pr (fn 1 (pr Z0 (.int 8))) (fn 1 (pr (fn 1 (pr Z0 (.int 31))) Z1))))
abbrev AV:E:=var 9
abbrev PD:E:=cmp .eql AV (fn 121 (pr (fn 1 (pr Z0 (.int 31))) (fn 1 (pr (fn 1 (pr Z0 (.int 31))) Z1))))
abbrev Qy:E:=cmp .eql AV (.int 1)
abbrev bX:E:=var 16
abbrev ui:E:=cmp .lss bX (fn 9 (pr (fn 1 (pr Z0 (.int 32))) (.int 2)))
abbrev Z30:E:=pr Z0 bX
abbrev Z31:E:=fn 127 Z30
abbrev xR:E:=.bool true
abbrev Z33:=Z3::Ou
abbrev pL:E:=.ar .add .i64 Z1 (.int 1)
abbrev Z35:E:=fn 126 (pr Z0 pL)
abbrev qE:E:=var 17
abbrev As:E:=cmp .eql qE (fn 121 (pr (fn 1 (pr Z0 (.int 31))) (fn 1 (pr (fn 1 (pr Z0 (.int 32))) (fn 6 (pr (fn 8 (pr bX (.int 2))) (.int 1)))))))
abbrev Cq:E:=cmp .eql qE (.int 1)
abbrev Gt:E:=cmp .eql (.ar .sub .i64 (.int 1) (fn 1 (pr Z0 (.int 34)))) (.int 0)
abbrev Bt:E:=var 18
abbrev Z41:E:=cmp .eql Bt (fn 121 (pr (fn 1 (pr Z0 (.int 22))) (fn 1 (pr (fn 1 (pr Z0 (.int 32))) (fn 6 (pr (fn 8 (pr bX (.int 2))) (.int 0)))))))
abbrev Z42:E:=cmp .eql Bt (.int 1)
abbrev ta:E:=.not (cmp .lss bX (.int 0))
abbrev Z44:=[Ar,B2]
abbrev Z45:=ta::Z44
abbrev Qa:=ui::Z45
abbrev W3:List E:=(.not Z42)::Qa
abbrev Z48:=Z42::Qa
abbrev MD:E:=fn 136 Z30
abbrev Z50:E:=cmp .eql Bt (fn 121 (pr (fn 1 (pr Z0 (.int 8))) (fn 1 (pr (fn 1 (pr Z0 (.int 32))) (fn 6 (pr (fn 8 (pr bX (.int 2))) (.int 0)))))))
abbrev iu:E:=var 24
abbrev qX:E:=cmp .lss iu bX
abbrev Z53:E:=.not qX
abbrev Z54:E:=cmp .lss bX iu
abbrev Z55:E:=.not Z54
abbrev yv:E:=.not (cmp .lss iu (.int 0))
abbrev Z57:=[yv,ui]
abbrev Z58:=Z55::Z57
abbrev Z59:=Z53::Z58
abbrev GA:=Z3::Z59
abbrev l7:E:=.ar .add .i64 bX (.int 1)
abbrev Z62:E:=cmp .lss l7 (.int 0)
abbrev Z63:E:=.not Z62
abbrev RT:E:=cmp .eql (fn 1 (pr (fn 1 (pr Z0 (.int 32))) (fn 6 (pr (fn 8 (pr iu (.int 2))) (.int 1))))) (fn 1 (pr (fn 1 (pr Z0 (.int 32))) (fn 6 (pr (fn 8 (pr bX (.int 2))) (.int 1)))))
abbrev Wn:E:=cmp .eql (fn 1 (pr (fn 1 (pr Z0 (.int 32))) (fn 6 (pr (fn 8 (pr iu (.int 2))) (.int 0))))) (fn 1 (pr (fn 1 (pr Z0 (.int 32))) (fn 6 (pr (fn 8 (pr bX (.int 2))) (.int 0)))))
abbrev GO:E:=fn 128 (pr Z0 (pr bX iu))
abbrev Z67:=[ui,ta]
abbrev QD:=yv::Z67
abbrev Z69:=Z3::qX::QD
abbrev wt:E:=.ar .add .i64 iu (.int 1)
abbrev cJ:=[Z3]
abbrev ce:E:=.iff ro (fn 130 Z0)
abbrev NI:E:=cmp .lss (.int 2) (fn 1 (pr Z0 (.int 37)))
abbrev Qh:E:=cmp .lss (fn 1 (pr Z0 (.int 37))) (.int 0)
abbrev Pw:E:=cmp .lss (.int 1) (fn 1 (pr Z0 (.int 36)))
abbrev PU:E:=cmp .lss (fn 1 (pr Z0 (.int 36))) (.int (-1))
abbrev SA:E:=cmp .lss (.int 10) (fn 1 (pr Z0 (.int 35)))
abbrev Mq:E:=cmp .lss (fn 1 (pr Z0 (.int 35))) (.int 0)
abbrev S9:E:=cmp .lss (.int 1000) (fn 1 (pr Z0 (.int 33)))
abbrev OC:E:=cmp .lss (fn 1 (pr Z0 (.int 33))) (.int 0)
abbrev KL:E:=cmp .lss Z1 (fn 9 (pr (fn 1 (pr Z0 (.int 29))) (.int 5)))
abbrev Z82:E:=pr (fn 1 (pr (fn 1 (pr Z0 (.int 29))) (fn 6 (pr (fn 8 (pr Z1 (.int 5))) (.int 4))))) ro
abbrev Z83:E:=pr (fn 1 (pr (fn 1 (pr Z0 (.int 29))) (fn 6 (pr (fn 8 (pr Z1 (.int 5))) (.int 3))))) Z82
abbrev Z84:E:=pr (fn 1 (pr (fn 1 (pr Z0 (.int 29))) (fn 6 (pr (fn 8 (pr Z1 (.int 5))) (.int 2))))) Z83
abbrev Z85:E:=pr (fn 1 (pr (fn 1 (pr Z0 (.int 29))) (fn 6 (pr (fn 8 (pr Z1 (.int 5))) (.int 1))))) Z84
abbrev Z86:E:=pr (fn 1 (pr (fn 1 (pr Z0 (.int 29))) (fn 6 (pr (fn 8 (pr Z1 (.int 5))) (.int 0))))) Z85
abbrev Z87:E:=fn 102 Z86
abbrev Z88:E:=.iff AV Z87
abbrev Z89:=KL::IN
abbrev GC:=Z3::Z89
abbrev Z91:E:=pr (fn 1 (pr Z0 (.int 29))) (pr ro Z1)
abbrev Z92:E:=fn 103 Z91
abbrev Hk:E:=fn 103 (pr (fn 1 (pr Z0 (.int 29))) (pr ro (fn 9 (pr (fn 1 (pr Z0 (.int 29))) (.int 5)))))
abbrev C4:E:=cmp .lss bX (fn 9 (pr (fn 1 (pr Z0 (.int 30))) (.int 5)))
abbrev Z95:E:=pr (fn 1 (pr (fn 1 (pr Z0 (.int 30))) (fn 6 (pr (fn 8 (pr bX (.int 5))) (.int 4))))) xR
abbrev Z96:E:=pr (fn 1 (pr (fn 1 (pr Z0 (.int 30))) (fn 6 (pr (fn 8 (pr bX (.int 5))) (.int 3))))) Z95
abbrev Z97:E:=pr (fn 1 (pr (fn 1 (pr Z0 (.int 30))) (fn 6 (pr (fn 8 (pr bX (.int 5))) (.int 2))))) Z96
abbrev Z98:E:=pr (fn 1 (pr (fn 1 (pr Z0 (.int 30))) (fn 6 (pr (fn 8 (pr bX (.int 5))) (.int 1))))) Z97
abbrev Z99:E:=pr (fn 1 (pr (fn 1 (pr Z0 (.int 30))) (fn 6 (pr (fn 8 (pr bX (.int 5))) (.int 0))))) Z98
abbrev aTH:E:=fn 102 Z99
abbrev adB:E:=.iff qE aTH
abbrev Kk:=[C4,ta]
abbrev afA:E:=cmp .lss (fn 1 (pr Z0 (.int 2))) (.int 0)
abbrev dP:E:=.not afA
abbrev aa0:E:=cmp .lss (fn 1 (pr Z0 (.int 3))) (.int 0)
abbrev dX:E:=.not aa0
abbrev adO:E:=cmp .lss (fn 1 (pr Z0 (.int 4))) (.int 0)
abbrev eB:E:=.not adO
abbrev YZ:E:=cmp .lss (fn 1 (pr Z0 (.int 5))) (.int 0)
abbrev ag0:E:=cmp .lss (fn 1 (pr Z0 (.int 1))) (.int 0)
abbrev fh:E:=.not ag0
abbrev aeK:E:=cmp .lss (.int 9999) (fn 1 (pr Z0 (.int 1)))
abbrev eW:E:=.not YZ
abbrev fF:E:=.not aeK
abbrev XK:E:=cmp .lss (fn 1 (pr Z0 (.int 13))) (.int 0)
abbrev fM:E:=.not XK
abbrev alm:E:=cmp .lss (.int 7) (fn 1 (pr Z0 (.int 13)))
abbrev gc:E:=.not alm
abbrev aj7:E:=cmp .lss (fn 1 (pr Z0 (.int 14))) (.int 0)
abbrev gZ:E:=.not aj7
abbrev akU:E:=cmp .lss (fn 1 (pr Z0 (.int 16))) (.int 0)
abbrev jU:E:=.not akU
abbrev aiY:E:=cmp .lss (fn 1 (pr Z0 (.int 17))) (.int 0)
abbrev mm:E:=.not aiY
abbrev ain:E:=cmp .lss (fn 1 (pr Z0 (.int 18))) (.int 0)
abbrev o7:E:=.not ain
abbrev anz:E:=cmp .lss (fn 1 (pr Z0 (.int 19))) (.int 0)
abbrev ajo:E:=cmp .lss (fn 1 (pr Z0 (.int 15))) (.int 0)
abbrev tX:E:=.not ajo
abbrev ahh:E:=cmp .lss (.int 9999) (fn 1 (pr Z0 (.int 15)))
abbrev tx:E:=.not anz
abbrev xe:E:=.not ahh
abbrev amT:E:=cmp .lss (fn 1 (pr Z0 (.int 27))) (.int 0)
abbrev Ds:E:=.not amT
abbrev am6:E:=cmp .lss (.int 7) (fn 1 (pr Z0 (.int 27)))
abbrev GK:E:=.not am6
abbrev Jc:E:=cmp .lss (fn 1 (pr Z0 (.int 28))) (.int 0)
abbrev alX:E:=.iff qE (fn 125 Z0)
abbrev YU:E:=cmp .lss (.int 99) (fn 1 (pr Z0 (.int 2)))
abbrev amW:E:=cmp .lss (.int 99) (fn 1 (pr Z0 (.int 3)))
abbrev abS:E:=cmp .lss (.int 99) (fn 1 (pr Z0 (.int 4)))
abbrev TA:E:=cmp .lss (.int 99) (fn 1 (pr Z0 (.int 5)))
abbrev agf:E:=cmp .lss (.int 255) (fn 1 (pr Z0 (.int 14)))
abbrev ak7:E:=cmp .lss (.int 99) (fn 1 (pr Z0 (.int 16)))
abbrev an9:E:=cmp .lss (.int 99) (fn 1 (pr Z0 (.int 17)))
abbrev aeX:E:=cmp .lss (.int 99) (fn 1 (pr Z0 (.int 18)))
abbrev Xe:E:=cmp .lss (.int 99) (fn 1 (pr Z0 (.int 19)))
abbrev ang:E:=cmp .lss (.int 255) (fn 1 (pr Z0 (.int 28)))
abbrev Np:E:=fn 103 (pr (fn 1 (pr Z0 (.int 30))) (pr xR bX))
def ar2:=fa ((fn 126 (pr Z0 (.int 0))))<|fun F=>by
 rfl
def ayE:=fb ([(.not Z2),Z3,Z5,(.not (cmp .lss (fn 0 (fn 1 (pr Z0 (.int 31)))) Z1))]) Z7<|aj fun F p0 p1 p2 p3=>by
 have g0:E.I F (fn 0 (fn 1 (pr Z0 (.int 31))))=E.I F Z1:=by
  try simp only[aa]at *
  omega
 grind[aAk]
def aQS:=fb (Z2::(.not Z8)::Z9::(.not Ee)::Z20) rP<|ba fun F p0 p1 p2 p3 p4 p5 p6 p7=>by
 have:=fun ha=>@yY F _ (fn 6 (pr Z1 (.int 1))) _ _ p6 _ rfl (yK ha).1
 try simp only[aa]at *
 grind
def avC:=fb (Z2::Z8::Z24::(.not Ee)::Ou) rP<|be fun F p0 p1 p2 p3 p4 p5=>by
 have:=fun ha=>@yY F _ (fn 6 (pr Z1 (.int 1))) _ _ p4 _ rfl (xF ha).1
 try simp only[aa]at *
 grind
def aPD:=fb (Z2::PD::(.not Qy)::Z20) rP<|bb fun F p0 p1 p2 p3 p4 p5 p6=>by
 have:=fun ha=>@yY F _ (fn 6 (pr Z1 (.int 1))) _ _ p5 _ rfl (xF ha).1
 have:=fun ha=>@yY F _ (fn 6 (pr Z1 (.int 1))) _ _ p5 _ rfl (yK ha).1
 try simp only[aa]at *
 grind
def aua:=fa ((fn 127 (pr Z0 (.int 0))))<|fun F=>by
 rfl
def auE:=fb ([(.not ui),Z31,Z7,(.not (cmp .lss (fn 9 (pr (fn 1 (pr Z0 (.int 32))) (.int 2))) bX))]) (.iff xR PI)<|aj fun F p0 p1 p2 p3=>by
 have:=@aKt F _ _ p2 p1
 try simp only[aa]at *
 grind
def aSw:=fb (Z2::PD::Qy::(.not Z8)::Z9::Ee::Ar::B2::Z33) Z35<|dH fun F p0 p1 p2 p3 p4 p5 p6 p7 p8 p9 ai=>by
 have:=ap p8
 have:=@am F Z1 (.int 1)
 have:=fun ha=>@yY F _ pL _ _ p9 _ rfl (yK ha).1
 try simp only[aa]at *
 grind
def aGN:=fb (Z2::PD::Qy::Z8::Z24::Ee::Z33) Z35<|bh fun F p0 p1 p2 p3 p4 p5 p6 p7 p8=>by
 have:=ap p6
 have:=@am F Z1 (.int 1)
 have:=fun ha=>@yY F _ pL _ _ p7 _ rfl (xF ha).1
 try simp only[aa]at *
 grind
def aIF:=fb (As::Cq::(.not Gt)::Z41::W3) rP<|bh fun F p0 p1 p2 p3 p4 p5 p6 p7 p8=>by
 have:=fun ha=>@wT F _ _ _ _ (fn 1 (pr (fn 1 (pr Z0 _)) (fn 6 (pr (fn 8 (pr bX _)) _)))) rfl rfl (xF ha).2
 try simp only[aa,ab]at *
 obtain⟨a7,ea7,qa7⟩:=ae ((1)-(E.I F (fn 1 (pr Z0 (.int 34)))))
 grind
def aX2:=fb (As::Cq::(.not Gt)::Z41::Z48) MD<|bh fun F p0 p1 p2 p3 p4 p5 p6 p7 p8=>by
 have:=fun ha=>@wT F _ _ _ _ (fn 1 (pr (fn 1 (pr Z0 _)) (fn 6 (pr (fn 8 (pr bX _)) _)))) rfl rfl (xF ha).2
 try simp only[aa,ab]at *
 obtain⟨a7,ea7,qa7⟩:=ae ((1)-(E.I F (fn 1 (pr Z0 (.int 34)))))
 grind
def avJ:=fb (As::Cq::Gt::Z50::W3) rP<|bh fun F p0 p1 p2 p3 p4 p5 p6 p7 p8=>by
 have:=fun ha=>@wT F _ _ _ _ (fn 1 (pr (fn 1 (pr Z0 _)) (fn 6 (pr (fn 8 (pr bX _)) _)))) rfl rfl (yK ha).2
 try simp only[aa,ab]at *
 obtain⟨a7,ea7,qa7⟩:=ae ((1)-(E.I F (fn 1 (pr Z0 (.int 34)))))
 grind
def aVu:=fb (As::Cq::Gt::Z50::Z48) MD<|bh fun F p0 p1 p2 p3 p4 p5 p6 p7 p8=>by
 have:=fun ha=>@wT F _ _ _ _ (fn 1 (pr (fn 1 (pr Z0 _)) (fn 6 (pr (fn 8 (pr bX _)) _)))) rfl rfl (yK ha).2
 try simp only[aa,ab]at *
 obtain⟨a7,ea7,qa7⟩:=ae ((1)-(E.I F (fn 1 (pr Z0 (.int 34)))))
 grind
def arj:=fb (As::(.not Cq)::Qa) rP<|be fun F p0 p1 p2 p3 p4 p5=>by
 have:=fun ha=>@wT F _ _ _ _ (fn 1 (pr (fn 1 (pr Z0 _)) (fn 6 (pr (fn 8 (pr bX _)) _)))) rfl rfl (xF ha).2
 have:=fun ha=>@wT F _ _ _ _ (fn 1 (pr (fn 1 (pr Z0 _)) (fn 6 (pr (fn 8 (pr bX _)) _)))) rfl rfl (yK ha).2
 try simp only[aa]at *
 grind
def aAi:=fa ((fn 128 (pr Z0 (pr bX (.int 0)))))<|fun F=>by
 rfl
def asl:=fb ([qX,ui]) (cmp .lss iu (fn 9 (pr (fn 1 (pr Z0 (.int 32))) (.int 2))))<|ak fun F p0 p1=>by
 try simp only[aa]at *
 omega
def aDM:=fb GA Z63<|aB fun F p0 p1 p2 p3 p4=>by
 have:=ap p0
 try simp only[aa,ab]at *
 obtain⟨a3,ea3,qa3⟩:=ae ((E.I F bX)+(1))
 omega
def axh:=fb (qX::(.not RT)::Wn::GO::QD) rP<|bb fun F p0 p1 p2 p3 p4 p5 p6=>by
 have:=@OX F _ _ (fn 6 (pr iu (.int 1))) _ p3 _ _ _ _ rfl rfl rfl rfl
 try simp only[aa]at *
 grind
def aCJ:=fb Z69 (.not (cmp .lss wt (.int 0)))<|aB fun F p0 p1 p2 p3 p4=>by
 have:=ap p0
 try simp only[aa,ab]at *
 obtain⟨a3,ea3,qa3⟩:=ae ((E.I F iu)+(1))
 omega
def awL:=fb (qX::RT::GO::QD) rP<|be fun F p0 p1 p2 p3 p4 p5=>by
 have:=@OX F _ _ (fn 6 (pr iu (.int 1))) _ p2 _ _ _ _ rfl rfl rfl rfl
 try simp only[aa]at *
 grind
def aTx:=fb GA (.not (cmp .lss (fn 9 (pr (fn 1 (pr Z0 (.int 32))) (.int 2))) l7))<|aB fun F p0 p1 p2 p3 p4=>by
 try simp only[aa,ab]at *
 obtain⟨a3,ea3,qa3⟩:=ae ((E.I F bX)+(1))
 omega
def aR9:=fb ([qX,yv]) (.not (cmp .lss bX wt))<|ak fun F p0 p1=>by
 try simp only[aa,ab]at *
 obtain⟨a2,ea2,qa2⟩:=ae ((E.I F iu)+(1))
 omega
def aPx:=fb (Z53::GO::MD::Z55::yv::Z31::ui::ta::cJ) (fn 127 (pr Z0 l7))<|bh fun F p0 p1 p2 p3 p4 p5 p6 p7 p8=>by
 have:=ap p8
 have:=@am F bX (.int 1)
 have:=@avb F _ _ l7 _ p5 p2 p1
 try simp only[aa]at *
 grind
def aKI:=fb (qX::(.not RT)::(.not Wn)::GO::yv::ui::ta::cJ) (fn 128 (pr Z0 (pr bX wt)))<|ba fun F p0 p1 p2 p3 p4 p5 p6 p7=>by
 have:=ap p7
 have:=@am F iu (.int 1)
 have:=@OX F _ _ wt _ p3 _ _ _ _ rfl rfl rfl rfl
 try simp only[aa]at *
 grind
def aTi:=fb GA (cmp .lss (fn 7 (pr (fn 9 (pr (fn 1 (pr Z0 (.int 32))) (.int 2))) l7)) (fn 7 (pr (fn 9 (pr (fn 1 (pr Z0 (.int 32))) (.int 2))) bX)))<|aB fun F p0 p1 p2 p3 p4=>by
 have:=ap p0
 try simp only[aa,ab]at *
 obtain⟨a3,ea3,qa3⟩:=ae ((E.I F bX)+(1))
 omega
def aQe:=fb Z69 (cmp .lss (fn 7 (pr bX wt)) (fn 7 (pr bX iu)))<|aB fun F p0 p1 p2 p3 p4=>by
 have:=ap p0
 try simp only[aa,ab]at *
 obtain⟨a3,ea3,qa3⟩:=ae ((E.I F iu)+(1))
 omega
def aSo:=fb GA (.not (cmp .lss (fn 7 (pr (fn 9 (pr (fn 1 (pr Z0 (.int 32))) (.int 2))) l7)) (.int 0)))<|aB fun F p0 p1 p2 p3 p4=>by
 try simp only[aa,ab]at *
 obtain⟨a3,ea3,qa3⟩:=ae ((E.I F bX)+(1))
 omega
def ao0:=fb ([qX,yv]) (.not (cmp .lss (fn 7 (pr bX wt)) (.int 0)))<|ak fun F p0 p1=>by
 try simp only[aa,ab]at *
 obtain⟨a2,ea2,qa2⟩:=ae ((E.I F iu)+(1))
 omega
def dY:List Fa:=[abo,anB,ar2,Uz,acb,ayE,aQS,anC,avC,aPD,aua,WV,XJ,auE,aSw,aGN,aii,aIF,aX2,avJ,aVu,arj,ak6,aAi,asl,aDM,axh,aCJ,awL,aTx,aR9,aPx,aKI,aTi,aQe,aSo,ao0]
theorem ar0:aN Try.prog (aZ (aKd)):=sc dY (aC2) Xl ([]) (by kernel_rfl) (by kernel_rfl)
def agM:Nl:=nc ar0 Xl
def aNb:=fb ((cmp .lss (.int 200) (fn 9 (pr (fn 1 (pr Z0 (.int 30))) (.int 5))))::cJ) ce<|ak fun F p0 p1=>by
 have:=ap p1
 try simp only[aa]at *
 grind
def aUa:=fb ((cmp .lss (.int 200) (fn 9 (pr (fn 1 (pr Z0 (.int 29))) (.int 5))))::cJ) ce<|ak fun F p0 p1=>by
 have:=ap p1
 try simp only[aa]at *
 grind
def aJn:=fb ((cmp .lss (.int 500) (fn 9 (pr (fn 1 (pr Z0 (.int 0))) (.int 12))))::cJ) ce<|ak fun F p0 p1=>by
 have:=ap p1
 try simp only[aa]at *
 grind
def atW:=fb ([NI]) ce<|aq fun F p0=>by
 have:=@cm F Z0
 try simp only[aa]at *
 grind
def aI9:=fb ([Qh]) ce<|aq fun F p0=>by
 have:=@cm F Z0
 try simp only[aa]at *
 grind
def aK1:=fb ([Pw]) ce<|aq fun F p0=>by
 have:=@cm F Z0
 try simp only[aa]at *
 grind
def ayk:=fb ([PU]) ce<|aq fun F p0=>by
 have:=@cm F Z0
 try simp only[aa]at *
 grind
def aIe:=fb ([SA]) ce<|aq fun F p0=>by
 have:=@cm F Z0
 try simp only[aa]at *
 grind
def auc:=fb ([Mq]) ce<|aq fun F p0=>by
 have:=@cm F Z0
 try simp only[aa]at *
 grind
def ayR:=fb ([S9]) ce<|aq fun F p0=>by
 have:=@cm F Z0
 try simp only[aa]at *
 grind
def aNq:=fb ([OC]) ce<|aq fun F p0=>by
 have:=@cm F Z0
 try simp only[aa]at *
 grind
def aKu:=fb ([Z11]) ce<|aq fun F p0=>by
 have:=@cm F Z0
 try simp only[aa]at *
 grind
def asv:=fb ([Z13]) ce<|aq fun F p0=>by
 have:=@cm F Z0
 try simp only[aa]at *
 grind
def aFv:=fa ((fn 103 (pr (fn 1 (pr Z0 (.int 29))) (pr ro (.int 0)))))<|fun F=>by
 rfl
def aDC:=fb (KL::Z88::(.not AV)::(.not NI)::(.not Qh)::(.not Pw)::(.not PU)::(.not SA)::(.not Mq)::(.not S9)::(.not OC)::Ar::B2::Z3::IN) ce<|Cw fun F p0 p1 p2 p3 p4 p5 p6 p7 p8 p9 ai ao aw aD aG=>by
 have:=@cm F Z0
 have:=fun h0 h1=>@I9 F _ _ (fn 9 (pr (fn 1 (pr Z0 (.int 29))) (.int 5))) _ h0 h1 (fn _ (pr (fn 1 _) (pr (fn 1 _) (pr (fn 1 _) (pr (fn 1 _) (pr (fn 1 (pr (fn 1 (pr Z0 (.int 29))) (fn 6 (pr (fn 8 (pr Z1 _)) _)))) ro)))))) rfl
 try simp only[aa]at *
 grind
def aHW:=fb GC (.not (cmp .lss pL (.int 0)))<|af fun F p0 p1 p2=>by
 have:=ap p0
 try simp only[aa,ab]at *
 obtain⟨a2,ea2,qa2⟩:=ae ((E.I F Z1)+(1))
 omega
def PA:=fb cJ (.not (cmp .lss (.int 20) (fn 9 (pr (fn 1 (pr Z0 (.int 30))) (.int 5)))))<|aq fun F p0=>by
 have:=ap p0
 try simp only[aa]at *
 omega
def aAj:=fb GC (.not (cmp .lss (fn 9 (pr (fn 1 (pr Z0 (.int 29))) (.int 5))) pL))<|af fun F p0 p1 p2=>by
 try simp only[aa,ab]at *
 obtain⟨a2,ea2,qa2⟩:=ae ((E.I F Z1)+(1))
 omega
def auB:=fb ([(.not KL),Z92]) Hk<|ak fun F p0 p1=>by
 have:=fun h1=>@Ky F _ _ (fn 9 (pr (fn 1 (pr Z0 (.int 29))) (.int 5))) _ p1 h1
 try simp only[aa]at *
 grind
def atC:=fb (KL::Z88::AV::Z3::Z92::IN) (fn 103 (pr (fn 1 (pr Z0 (.int 29))) (pr ro pL)))<|be fun F p0 p1 p2 p3 p4 p5=>by
 have:=ap p3
 have:=@am F Z1 (.int 1)
 have:=fun h0 hm=>@Hi F _ _ pL _ p4 h0 hm (fn _ (pr (fn 1 _) (pr (fn 1 _) (pr (fn 1 _) (pr (fn 1 _) (pr (fn 1 _) _)))))) rfl
 try simp only[aa]at *
 grind
def aTj:=fa ((fn 103 (pr (fn 1 (pr Z0 (.int 30))) (pr xR (.int 0)))))<|fun F=>by
 rfl
def aYq:=fb GC (cmp .lss (fn 7 (pr (fn 9 (pr (fn 1 (pr Z0 (.int 29))) (.int 5))) pL)) (fn 7 (pr (fn 9 (pr (fn 1 (pr Z0 (.int 29))) (.int 5))) Z1)))<|af fun F p0 p1 p2=>by
 have:=ap p0
 try simp only[aa,ab]at *
 obtain⟨a2,ea2,qa2⟩:=ae ((E.I F Z1)+(1))
 omega
def aCD:=fb (C4::adB::(.not qE)::ta::Hk::cJ) ce<|be fun F p0 p1 p2 p3 p4 p5=>by
 have:=@cm F Z0
 have:=fun h0 h1=>@I9 F _ _ (fn 9 (pr (fn 1 (pr Z0 (.int 30))) (.int 5))) _ h0 h1 (fn _ (pr (fn 1 _) (pr (fn 1 _) (pr (fn 1 _) (pr (fn 1 _) (pr (fn 1 (pr (fn 1 (pr Z0 (.int 30))) (fn 6 (pr (fn 8 (pr bX _)) _)))) xR)))))) rfl
 try simp only[aa]at *
 grind
def aF8:=fb (Z3::Kk) Z63<|af fun F p0 p1 p2=>by
 have:=ap p0
 try simp only[aa,ab]at *
 obtain⟨a2,ea2,qa2⟩:=ae ((E.I F bX)+(1))
 omega
def aTW:=fb (afA::cJ) ce<|ak fun F p0 p1=>by
 have:=@cm F Z0
 try simp only[aa]at *
 grind
def aMz:=fb (dP::aa0::cJ) ce<|af fun F p0 p1 p2=>by
 have:=@cm F Z0
 try simp only[aa]at *
 grind
def aFU:=fb (dP::dX::adO::cJ) ce<|aj fun F p0 p1 p2 p3=>by
 have:=@cm F Z0
 try simp only[aa]at *
 grind
def aE6:=fb (dP::dX::eB::YZ::cJ) ce<|aB fun F p0 p1 p2 p3 p4=>by
 have:=@cm F Z0
 try simp only[aa]at *
 grind
def aTn:=fb (ag0::cJ) ce<|ak fun F p0 p1=>by
 have:=@cm F Z0
 try simp only[aa]at *
 grind
def asH:=fb (fh::aeK::cJ) ce<|af fun F p0 p1 p2=>by
 have:=@cm F Z0
 try simp only[aa]at *
 grind
def auL:=fb (dP::dX::eB::eW::fh::fF::XK::cJ) ce<|ba fun F p0 p1 p2 p3 p4 p5 p6 p7=>by
 have:=@cm F Z0
 try simp only[aa]at *
 grind
def aEu:=fb (dP::dX::eB::eW::fh::fF::fM::alm::cJ) ce<|bh fun F p0 p1 p2 p3 p4 p5 p6 p7 p8=>by
 have:=@cm F Z0
 try simp only[aa]at *
 grind
def aot:=fb (dP::dX::eB::eW::fh::fF::fM::gc::aj7::cJ) ce<|bE fun F p0 p1 p2 p3 p4 p5 p6 p7 p8 p9=>by
 have:=@cm F Z0
 try simp only[aa]at *
 grind
def aN1:=fb (dP::dX::eB::eW::fh::fF::fM::gc::gZ::akU::cJ) ce<|dH fun F p0 p1 p2 p3 p4 p5 p6 p7 p8 p9 ai=>by
 have:=@cm F Z0
 try simp only[aa]at *
 grind
def apJ:=fb (dP::dX::eB::eW::fh::fF::fM::gc::gZ::jU::aiY::cJ) ce<|fu fun F p0 p1 p2 p3 p4 p5 p6 p7 p8 p9 ai ao=>by
 have:=@cm F Z0
 try simp only[aa]at *
 grind
def aoz:=fb (dP::dX::eB::eW::fh::fF::fM::gc::gZ::jU::mm::ain::cJ) ce<|fV fun F p0 p1 p2 p3 p4 p5 p6 p7 p8 p9 ai ao aw=>by
 have:=@cm F Z0
 try simp only[aa]at *
 grind
def aRg:=fb (dP::dX::eB::eW::fh::fF::fM::gc::gZ::jU::mm::o7::anz::cJ) ce<|ub fun F p0 p1 p2 p3 p4 p5 p6 p7 p8 p9 ai ao aw aD=>by
 have:=@cm F Z0
 try simp only[aa]at *
 grind
def aUE:=fb (dP::dX::eB::eW::fh::fF::fM::gc::gZ::ajo::cJ) ce<|dH fun F p0 p1 p2 p3 p4 p5 p6 p7 p8 p9 ai=>by
 have:=@cm F Z0
 try simp only[aa]at *
 grind
def aQa:=fb (dP::dX::eB::eW::fh::fF::fM::gc::gZ::tX::ahh::cJ) ce<|fu fun F p0 p1 p2 p3 p4 p5 p6 p7 p8 p9 ai ao=>by
 have:=@cm F Z0
 try simp only[aa]at *
 grind
def avD:=fb (dP::dX::eB::eW::fh::fF::fM::gc::gZ::jU::mm::o7::tx::tX::xe::amT::cJ) ce<|EY fun F p0 p1 p2 p3 p4 p5 p6 p7 p8 p9 ai ao aw aD aG aH aT=>by
 have:=@cm F Z0
 try simp only[aa]at *
 grind
def aDA:=fb (dP::dX::eB::eW::fh::fF::fM::gc::gZ::jU::mm::o7::tx::tX::xe::Ds::am6::cJ) ce<|AN fun F p0 p1 p2 p3 p4 p5 p6 p7 p8 p9 ai ao aw aD aG aH aT aY=>by
 have:=@cm F Z0
 try simp only[aa]at *
 grind
def aFI:=fb (dP::dX::eB::eW::fh::fF::fM::gc::gZ::jU::mm::o7::tx::tX::xe::Ds::GK::Jc::cJ) ce<|GL fun F p0 p1 p2 p3 p4 p5 p6 p7 p8 p9 ai ao aw aD aG aH aT aY bk=>by
 have:=@cm F Z0
 try simp only[aa]at *
 grind
def aTe:=fb ((.not C4)::dP::dX::eB::eW::fh::fF::fM::gc::gZ::jU::mm::o7::tx::tX::xe::Ds::GK::(.not Jc)::alX::qE::(.iff Bt PI)::(.not YU)::(.not amW)::(.not abS)::(.not TA)::(.not agf)::(.not ak7)::(.not an9)::(.not aeX)::(.not Xe)::(.not ang)::Np::Hk::(.not NI)::(.not Qh)::(.not Pw)::(.not PU)::(.not SA)::(.not Mq)::(.not S9)::(.not OC)::Ar::B2::cJ) (.iff Bt (fn 130 Z0))<|aL3 fun F p0 p1 p2 p3 p4 p5 p6 p7 p8 p9 ai ao aw aD aG aH aT aY bk bw bF bP bZ ck cO df dC dY eS fS h9 jQ jM nO nZ vH uF vU uy vC tM vJ vD tA rH=>by
 have:=ap rH
 have:=@cm F Z0
 have:=fun h1=>@Ky F _ _ (fn 9 (pr (fn 1 (pr Z0 (.int 30))) (.int 5))) _ jM h1
 try simp only[aa]at *
 grind
def aPz:=fb ((.not C4)::dP::dX::eB::eW::fh::fF::fM::gc::gZ::jU::mm::o7::tx::tX::xe::Ds::GK::(.not Jc)::alX::(.not qE)::Np::Hk::cJ) ce<|O1 fun F p0 p1 p2 p3 p4 p5 p6 p7 p8 p9 ai ao aw aD aG aH aT aY bk bw bF bP bZ ck=>by
 have:=@cm F Z0
 simp_all
def azf:=fb (dP::dX::eB::eW::fh::fF::fM::gc::gZ::jU::mm::o7::tx::tX::xe::Ds::GK::(.not Jc)::ang::cJ) ce<|aft fun F p0 p1 p2 p3 p4 p5 p6 p7 p8 p9 ai ao aw aD aG aH aT aY bk bw=>by
 have:=@cm F Z0
 try simp only[aa]at *
 grind
def aG1:=fb (dP::dX::eB::eW::fh::fF::fM::gc::gZ::jU::mm::o7::tx::Xe::cJ) ce<|Cw fun F p0 p1 p2 p3 p4 p5 p6 p7 p8 p9 ai ao aw aD aG=>by
 have:=@cm F Z0
 try simp only[aa]at *
 grind
def aIx:=fb (dP::dX::eB::eW::fh::fF::fM::gc::gZ::jU::mm::o7::aeX::cJ) ce<|ub fun F p0 p1 p2 p3 p4 p5 p6 p7 p8 p9 ai ao aw aD=>by
 have:=@cm F Z0
 try simp only[aa]at *
 grind
def aFj:=fb (dP::dX::eB::eW::fh::fF::fM::gc::gZ::jU::mm::an9::cJ) ce<|fV fun F p0 p1 p2 p3 p4 p5 p6 p7 p8 p9 ai ao aw=>by
 have:=@cm F Z0
 try simp only[aa]at *
 grind
def aO2:=fb (dP::dX::eB::eW::fh::fF::fM::gc::gZ::jU::ak7::cJ) ce<|fu fun F p0 p1 p2 p3 p4 p5 p6 p7 p8 p9 ai ao=>by
 have:=@cm F Z0
 try simp only[aa]at *
 grind
def aV2:=fb (dP::dX::eB::eW::fh::fF::fM::gc::gZ::agf::cJ) ce<|dH fun F p0 p1 p2 p3 p4 p5 p6 p7 p8 p9 ai=>by
 have:=@cm F Z0
 try simp only[aa]at *
 grind
def auz:=fb (dP::dX::eB::eW::TA::cJ) ce<|be fun F p0 p1 p2 p3 p4 p5=>by
 have:=@cm F Z0
 try simp only[aa]at *
 grind
def aPv:=fb (dP::dX::eB::abS::cJ) ce<|aB fun F p0 p1 p2 p3 p4=>by
 have:=@cm F Z0
 try simp only[aa]at *
 grind
def aMS:=fb GC (.not (cmp .lss (fn 7 (pr (fn 9 (pr (fn 1 (pr Z0 (.int 29))) (.int 5))) pL)) (.int 0)))<|af fun F p0 p1 p2=>by
 try simp only[aa,ab]at *
 obtain⟨a2,ea2,qa2⟩:=ae ((E.I F Z1)+(1))
 omega
def UK:=fb Kk (.not (cmp .lss (fn 9 (pr (fn 1 (pr Z0 (.int 30))) (.int 5))) l7))<|ak fun F p0 p1=>by
 try simp only[aa,ab]at *
 obtain⟨a2,ea2,qa2⟩:=ae ((E.I F bX)+(1))
 omega
def aOX:=fb (dP::dX::amW::cJ) ce<|aj fun F p0 p1 p2 p3=>by
 have:=@cm F Z0
 try simp only[aa]at *
 grind
def aLq:=fb (dP::YU::cJ) ce<|af fun F p0 p1 p2=>by
 have:=@cm F Z0
 try simp only[aa]at *
 grind
def aCI:=fb (C4::adB::qE::Np::ta::cJ) (fn 103 (pr (fn 1 (pr Z0 (.int 30))) (pr xR l7)))<|be fun F p0 p1 p2 p3 p4 p5=>by
 have:=ap p5
 have:=@am F bX (.int 1)
 have:=fun h0 hm=>@Hi F _ _ l7 _ p3 h0 hm (fn _ (pr (fn 1 _) (pr (fn 1 _) (pr (fn 1 _) (pr (fn 1 _) (pr (fn 1 _) _)))))) rfl
 try simp only[aa]at *
 grind
def ay2:=fb (Z3::Kk) (cmp .lss (fn 7 (pr (fn 9 (pr (fn 1 (pr Z0 (.int 30))) (.int 5))) l7)) (fn 7 (pr (fn 9 (pr (fn 1 (pr Z0 (.int 30))) (.int 5))) bX)))<|af fun F p0 p1 p2=>by
 have:=ap p0
 try simp only[aa,ab]at *
 obtain⟨a2,ea2,qa2⟩:=ae ((E.I F bX)+(1))
 omega
def Ya:=fb Kk (.not (cmp .lss (fn 7 (pr (fn 9 (pr (fn 1 (pr Z0 (.int 30))) (.int 5))) l7)) (.int 0)))<|ak fun F p0 p1=>by
 try simp only[aa,ab]at *
 obtain⟨a2,ea2,qa2⟩:=ae ((E.I F bX)+(1))
 omega
def eS:List Fa:=[aNb,zz,aUa,aJn,atW,aI9,aK1,ayk,aIe,auc,ayR,aNq,aKu,asv,aFv,aDC,aHW,PA,aAj,auB,atC,aTj,aYq,aCD,aF8,aTW,aMz,aFU,aE6,aTn,asH,auL,aEu,aot,aN1,apJ,aoz,aRg,aUE,aQa,avD,aDA,aFI,aTe,aPz,azf,aG1,aIx,aFj,aO2,aV2,auz,aPv,aMS,UK,aOX,aLq,aCI,ay2,Ya]
theorem axC:aN Try.prog (aZ (aJW)):=sc eS (aLT) agM ([]) (by kernel_rfl) (by kernel_rfl)
def WP:Nl:=nc axC agM
end
end Go.Proofs.Ytnnbmcfabojjjaa.payPlans
