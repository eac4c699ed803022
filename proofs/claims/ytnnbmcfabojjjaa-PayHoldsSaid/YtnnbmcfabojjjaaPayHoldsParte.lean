/-
  PayHolds: contracts of functions, part 5.
-/
import Derived.Test.YtnnbmcfabojjjaaRows
import Derived.Test.YtnnbmcfabojjjaaNat
import Derived.WalkKit
import Derived.ProofKit
import Derived.OpenShut
import Derived.ChangeOld
import Derived.Below
import Derived.KernelRfl
import Derived.Lib.SmallJoins
import Derived.Laws.IdiomArrays
import Derived.Test.YtnnbmcfabojjjaaPayHoldsPartd
namespace Go.Proofs.Ytnnbmcfabojjjaa.payHolds
open Go.ChangeShapes Go.WideShapes Go.ChangeAt Go.RowKit
open Go.SX
open Go.SX.E (fn pr cmp var)
set_option linter.unusedVariables false
set_option linter.unusedSimpArgs false
set_option maxRecDepth 100000
noncomputable section
abbrev Z0:E:=var 0
abbrev Z1:E:=var 8
abbrev Z2:E:=cmp .lss Z1 (fn 0 (fn 1 (pr Z0 (.int 31))))
abbrev Z3:E:=fn 117 Z0
abbrev Z4:E:=pr Z0 Z1
abbrev Z5:E:=fn 126 Z4
abbrev Z6:E:=pr Z0 (fn 0 (fn 1 (pr Z0 (.int 31))))
abbrev Z7:E:=fn 126 Z6
abbrev Z8:E:=cmp .eql (fn 1 (pr Z0 (.int 34))) (.int 0)
abbrev Z9:E:=cmp .eql (var 10) (fn 121 (pr (fn 1 (pr Z0 (.int 22))) (fn 1 (pr (fn 1 (pr Z0 (.int 31))) Z1))))
abbrev FD:E:=cmp .eql (var 10) (.int 1)
abbrev Q8:E:=cmp .lss (.int 1) (fn 1 (pr Z0 (.int 34)))
abbrev wC:E:=.not Q8
abbrev SS:E:=cmp .lss (fn 1 (pr Z0 (.int 34))) (.int 0)
abbrev yQ:E:=.not SS
abbrev Z15:E:=cmp .lss Z1 (.int 0)
abbrev Z16:E:=.not Z15
abbrev BH:=[Z16]
abbrev Nb:=Z5::BH
abbrev Z19:=yQ::Nb
abbrev YJ:=wC::Z19
abbrev oR:E:=.bool false
abbrev GI:E:=fn 129 Z0
abbrev qr:E:=.iff oR GI
abbrev Z24:E:=cmp .eql (var 10) (fn 121 (pr (fn 1 (pr Z0 (.int 8))) (fn 1 (pr (fn 1 (pr Z0 (.int 31))) Z1))))
abbrev wH:E:=var 9
abbrev Hn:E:=cmp .eql wH (fn 121 (pr (fn 1 (pr Z0 (.int 31))) (fn 1 (pr (fn 1 (pr Z0 (.int 31))) Z1))))
abbrev HI:E:=cmp .eql wH (.int 1)
abbrev bI:E:=var 16
abbrev si:E:=cmp .lss bI (fn 9 (pr (fn 1 (pr Z0 (.int 32))) (.int 2)))
abbrev Z30:E:=pr Z0 bI
abbrev XD:E:=fn 127 Z30
abbrev tC:E:=.bool true
abbrev W7:=Z3::Nb
abbrev Z34:E:=pr Z0 (.ar .add .i64 Z1 (.int 1))
abbrev Z35:E:=fn 126 Z34
abbrev pm:E:=var 17
abbrev xI:E:=cmp .eql pm (fn 121 (pr (fn 1 (pr Z0 (.int 31))) (fn 1 (pr (fn 1 (pr Z0 (.int 32))) (fn 6 (pr (fn 8 (pr bI (.int 2))) (.int 1)))))))
abbrev xz:E:=cmp .eql pm (.int 1)
abbrev Gd:E:=cmp .eql (.ar .sub .i64 (.int 1) (fn 1 (pr Z0 (.int 34)))) (.int 0)
abbrev xR:E:=var 18
abbrev Z41:E:=cmp .eql xR (fn 121 (pr (fn 1 (pr Z0 (.int 22))) (fn 1 (pr (fn 1 (pr Z0 (.int 32))) (fn 6 (pr (fn 8 (pr bI (.int 2))) (.int 0)))))))
abbrev Zh:E:=cmp .eql xR (.int 1)
abbrev qU:E:=.not (cmp .lss bI (.int 0))
abbrev Z44:=[wC,yQ]
abbrev Z45:=qU::Z44
abbrev HX:=si::Z45
abbrev Z47:List E:=(.not Zh)::HX
abbrev OT:=Zh::HX
abbrev LM:E:=fn 136 Z30
abbrev ZE:E:=cmp .eql xR (fn 121 (pr (fn 1 (pr Z0 (.int 8))) (fn 1 (pr (fn 1 (pr Z0 (.int 32))) (fn 6 (pr (fn 8 (pr bI (.int 2))) (.int 0)))))))
abbrev fS:E:=var 24
abbrev pQ:E:=cmp .lss fS bI
abbrev Up:E:=.not pQ
abbrev Z54:E:=cmp .lss bI fS
abbrev W0:E:=.not Z54
abbrev td:E:=.not (cmp .lss fS (.int 0))
abbrev Z57:=[td,si]
abbrev Z58:=W0::Z57
abbrev Z59:=Up::Z58
abbrev B1:=Z3::Z59
abbrev Z61:E:=cmp .lss (.ar .add .i64 bI (.int 1)) (.int 0)
abbrev Z62:E:=.not Z61
abbrev NJ:E:=cmp .eql (fn 1 (pr (fn 1 (pr Z0 (.int 32))) (fn 6 (pr (fn 8 (pr fS (.int 2))) (.int 1))))) (fn 1 (pr (fn 1 (pr Z0 (.int 32))) (fn 6 (pr (fn 8 (pr bI (.int 2))) (.int 1)))))
abbrev PY:E:=cmp .eql (fn 1 (pr (fn 1 (pr Z0 (.int 32))) (fn 6 (pr (fn 8 (pr fS (.int 2))) (.int 0))))) (fn 1 (pr (fn 1 (pr Z0 (.int 32))) (fn 6 (pr (fn 8 (pr bI (.int 2))) (.int 0)))))
abbrev AV:E:=fn 128 (pr Z0 (pr bI fS))
abbrev Z66:=[si,qU]
abbrev MX:=td::Z66
abbrev QY:=Z3::pQ::MX
abbrev cZ:=[Z3]
abbrev ci:E:=.iff oR (fn 130 Z0)
abbrev JG:E:=cmp .lss (.int 2) (fn 1 (pr Z0 (.int 37)))
abbrev KF:E:=cmp .lss (fn 1 (pr Z0 (.int 37))) (.int 0)
abbrev JD:E:=cmp .lss (.int 1) (fn 1 (pr Z0 (.int 36)))
abbrev Jg:E:=cmp .lss (fn 1 (pr Z0 (.int 36))) (.int (-1))
abbrev H7:E:=cmp .lss (.int 10) (fn 1 (pr Z0 (.int 35)))
abbrev HL:E:=cmp .lss (fn 1 (pr Z0 (.int 35))) (.int 0)
abbrev H4:E:=cmp .lss (.int 1000) (fn 1 (pr Z0 (.int 33)))
abbrev Nu:E:=cmp .lss (fn 1 (pr Z0 (.int 33))) (.int 0)
abbrev A4:E:=cmp .lss Z1 (fn 9 (pr (fn 1 (pr Z0 (.int 29))) (.int 5)))
abbrev Z80:E:=pr (fn 1 (pr (fn 1 (pr Z0 (.int 29))) (fn 6 (pr (fn 8 (pr Z1 (.int 5))) (.int 4))))) oR
abbrev Z81:E:=pr (fn 1 (pr (fn 1 (pr Z0 (.int 29))) (fn 6 (pr (fn 8 (pr Z1 (.int 5))) (.int 3))))) Z80
abbrev Z82:E:=pr (fn 1 (pr (fn 1 (pr Z0 (.int 29))) (fn 6 (pr (fn 8 (pr Z1 (.int 5))) (.int 2))))) Z81
abbrev Z83:E:=pr (fn 1 (pr (fn 1 (pr Z0 (.int 29))) (fn 6 (pr (fn 8 (pr Z1 (.int 5))) (.int 1))))) Z82
abbrev Z84:E:=pr (fn 1 (pr (fn 1 (pr Z0 (.int 29))) (fn 6 (pr (fn 8 (pr Z1 (.int 5))) (.int 0))))) Z83
abbrev Z85:E:=fn 102 Z84
abbrev Z86:E:=.iff wH Z85
abbrev Z87:=A4::BH
abbrev Gi:=Z3::Z87
abbrev Z89:E:=pr (fn 1 (pr Z0 (.int 29))) (pr oR Z1)
abbrev SG:E:=fn 103 Z89
abbrev Ce:E:=fn 103 (pr (fn 1 (pr Z0 (.int 29))) (pr oR (fn 9 (pr (fn 1 (pr Z0 (.int 29))) (.int 5)))))
abbrev yD:E:=cmp .lss bI (fn 9 (pr (fn 1 (pr Z0 (.int 30))) (.int 5)))
abbrev Z93:E:=pr (fn 1 (pr (fn 1 (pr Z0 (.int 30))) (fn 6 (pr (fn 8 (pr bI (.int 5))) (.int 4))))) tC
abbrev Z94:E:=pr (fn 1 (pr (fn 1 (pr Z0 (.int 30))) (fn 6 (pr (fn 8 (pr bI (.int 5))) (.int 3))))) Z93
abbrev Z95:E:=pr (fn 1 (pr (fn 1 (pr Z0 (.int 30))) (fn 6 (pr (fn 8 (pr bI (.int 5))) (.int 2))))) Z94
abbrev Z96:E:=pr (fn 1 (pr (fn 1 (pr Z0 (.int 30))) (fn 6 (pr (fn 8 (pr bI (.int 5))) (.int 1))))) Z95
abbrev Z97:E:=pr (fn 1 (pr (fn 1 (pr Z0 (.int 30))) (fn 6 (pr (fn 8 (pr bI (.int 5))) (.int 0))))) Z96
abbrev Z98:E:=fn 102 Z97
abbrev O8:E:=.iff pm Z98
abbrev AW:=[yD,qU]
abbrev XO:E:=cmp .lss (fn 1 (pr Z0 (.int 2))) (.int 0)
abbrev eF:E:=.not XO
abbrev aeT:E:=cmp .lss (fn 1 (pr Z0 (.int 3))) (.int 0)
abbrev eR:E:=.not aeT
abbrev To:E:=cmp .lss (fn 1 (pr Z0 (.int 4))) (.int 0)
abbrev fu:E:=.not To
abbrev Xe:E:=cmp .lss (fn 1 (pr Z0 (.int 5))) (.int 0)
abbrev O0:E:=cmp .lss (fn 1 (pr Z0 (.int 1))) (.int 0)
abbrev fK:E:=.not O0
abbrev YL:E:=cmp .lss (.int 9999) (fn 1 (pr Z0 (.int 1)))
abbrev fP:E:=.not Xe
abbrev gf:E:=.not YL
abbrev Zd:E:=cmp .lss (fn 1 (pr Z0 (.int 13))) (.int 0)
abbrev gm:E:=.not Zd
abbrev XU:E:=cmp .lss (.int 7) (fn 1 (pr Z0 (.int 13)))
abbrev gA:E:=.not XU
abbrev agH:E:=cmp .lss (fn 1 (pr Z0 (.int 14))) (.int 0)
abbrev gP:E:=.not agH
abbrev SN:E:=cmp .lss (fn 1 (pr Z0 (.int 16))) (.int 0)
abbrev jP:E:=.not SN
abbrev TR:E:=cmp .lss (fn 1 (pr Z0 (.int 17))) (.int 0)
abbrev lN:E:=.not TR
abbrev QZ:E:=cmp .lss (fn 1 (pr Z0 (.int 18))) (.int 0)
abbrev np:E:=.not QZ
abbrev aaL:E:=cmp .lss (fn 1 (pr Z0 (.int 19))) (.int 0)
abbrev adV:E:=cmp .lss (fn 1 (pr Z0 (.int 15))) (.int 0)
abbrev ro:E:=.not adV
abbrev Vg:E:=cmp .lss (.int 9999) (fn 1 (pr Z0 (.int 15)))
abbrev sC:E:=.not aaL
abbrev tM:E:=.not Vg
abbrev aeo:E:=cmp .lss (fn 1 (pr Z0 (.int 27))) (.int 0)
abbrev zz:E:=.not aeo
abbrev afZ:E:=cmp .lss (.int 7) (fn 1 (pr Z0 (.int 27)))
abbrev Cy:E:=.not afZ
abbrev FX:E:=cmp .lss (fn 1 (pr Z0 (.int 28))) (.int 0)
abbrev T4:E:=.iff pm (fn 125 Z0)
abbrev agc:E:=cmp .lss (.int 99) (fn 1 (pr Z0 (.int 2)))
abbrev Wm:E:=cmp .lss (.int 99) (fn 1 (pr Z0 (.int 3)))
abbrev YQ:E:=cmp .lss (.int 99) (fn 1 (pr Z0 (.int 4)))
abbrev abn:E:=cmp .lss (.int 99) (fn 1 (pr Z0 (.int 5)))
abbrev Sz:E:=cmp .lss (.int 255) (fn 1 (pr Z0 (.int 14)))
abbrev PC:E:=cmp .lss (.int 99) (fn 1 (pr Z0 (.int 16)))
abbrev Py:E:=cmp .lss (.int 99) (fn 1 (pr Z0 (.int 17)))
abbrev Wp:E:=cmp .lss (.int 99) (fn 1 (pr Z0 (.int 18)))
abbrev ab1:E:=cmp .lss (.int 99) (fn 1 (pr Z0 (.int 19)))
abbrev P7:E:=cmp .lss (.int 255) (fn 1 (pr Z0 (.int 28)))
abbrev Hj:E:=fn 103 (pr (fn 1 (pr Z0 (.int 30))) (pr tC bI))
def amt:=fa ((fn 126 (pr Z0 (.int 0))))<|fun F=>by
 rfl
def anr:=fb ([(.not Z2),Z3,Z5,(.not (cmp .lss (fn 0 (fn 1 (pr Z0 (.int 31)))) Z1))]) Z7<|aH fun F p0 p1 p2 p3=>by
 have g0:E.I F (fn 0 (fn 1 (pr Z0 (.int 31))))=E.I F Z1:=by
  try simp only[aa]at *
  omega
 grind[aIS]
def aBr:=fb (Z2::(.not Z8)::Z9::(.not FD)::YJ) qr<|dw fun F p0 p1 p2 p3 p4 p5 p6 p7=>by
 have:=fun ha=>@uc F _ (fn 6 (pr Z1 (.int 1))) _ _ p6 _ rfl (vX ha).1
 try simp only[aa]at *
 grind
def aqu:=fb (Z2::Z8::Z24::(.not FD)::Nb) qr<|cr fun F p0 p1 p2 p3 p4 p5=>by
 have:=fun ha=>@uc F _ (fn 6 (pr Z1 (.int 1))) _ _ p4 _ rfl (uj ha).1
 try simp only[aa]at *
 grind
def aGB:=fb (Z2::Hn::(.not HI)::YJ) qr<|de fun F p0 p1 p2 p3 p4 p5 p6=>by
 have:=fun ha=>@uc F _ (fn 6 (pr Z1 (.int 1))) _ _ p5 _ rfl (uj ha).1
 have:=fun ha=>@uc F _ (fn 6 (pr Z1 (.int 1))) _ _ p5 _ rfl (vX ha).1
 try simp only[aa]at *
 grind
def aHm:=fa ((fn 127 (pr Z0 (.int 0))))<|fun F=>by
 rfl
def avc:=fb ([(.not si),XD,Z7,(.not (cmp .lss (fn 9 (pr (fn 1 (pr Z0 (.int 32))) (.int 2))) bI))]) (.iff tC GI)<|aH fun F p0 p1 p2 p3=>by
 have:=@aHh F _ _ p2 p1
 try simp only[aa]at *
 grind
def axN:=fb (Z2::Hn::HI::(.not Z8)::Z9::FD::wC::yQ::W7) Z35<|iu fun F p0 p1 p2 p3 p4 p5 p6 p7 p8 p9 aj=>by
 have:=aC p8
 have:=@aM F Z1 (.int 1)
 have:=fun ha=>@uc F _ (.ar .add .i64 Z1 (.int 1)) _ _ p9 _ rfl (vX ha).1
 try simp only[aa]at *
 grind
def awP:=fb (Z2::Hn::HI::Z8::Z24::FD::W7) Z35<|eB fun F p0 p1 p2 p3 p4 p5 p6 p7 p8=>by
 have:=aC p6
 have:=@aM F Z1 (.int 1)
 have:=fun ha=>@uc F _ (.ar .add .i64 Z1 (.int 1)) _ _ p7 _ rfl (uj ha).1
 try simp only[aa]at *
 grind
def aBe:=fb (xI::xz::(.not Gd)::Z41::Z47) qr<|eB fun F p0 p1 p2 p3 p4 p5 p6 p7 p8=>by
 have:=fun ha=>@tj F _ _ _ _ (fn 1 (pr (fn 1 (pr Z0 _)) (fn 6 (pr (fn 8 (pr bI _)) _)))) rfl rfl (uj ha).2
 try simp only[aa,ae]at *
 obtain⟨a7,ea7,qa7⟩:=ab ((1)-(E.I F (fn 1 (pr Z0 (.int 34)))))
 grind
def amu:=fb (xI::xz::(.not Gd)::Z41::OT) LM<|eB fun F p0 p1 p2 p3 p4 p5 p6 p7 p8=>by
 have:=fun ha=>@tj F _ _ _ _ (fn 1 (pr (fn 1 (pr Z0 _)) (fn 6 (pr (fn 8 (pr bI _)) _)))) rfl rfl (uj ha).2
 try simp only[aa,ae]at *
 obtain⟨a7,ea7,qa7⟩:=ab ((1)-(E.I F (fn 1 (pr Z0 (.int 34)))))
 grind
def aCI:=fb (xI::xz::Gd::ZE::Z47) qr<|eB fun F p0 p1 p2 p3 p4 p5 p6 p7 p8=>by
 have:=fun ha=>@tj F _ _ _ _ (fn 1 (pr (fn 1 (pr Z0 _)) (fn 6 (pr (fn 8 (pr bI _)) _)))) rfl rfl (vX ha).2
 try simp only[aa,ae]at *
 obtain⟨a7,ea7,qa7⟩:=ab ((1)-(E.I F (fn 1 (pr Z0 (.int 34)))))
 grind
def aHk:=fb (xI::xz::Gd::ZE::OT) LM<|eB fun F p0 p1 p2 p3 p4 p5 p6 p7 p8=>by
 have:=fun ha=>@tj F _ _ _ _ (fn 1 (pr (fn 1 (pr Z0 _)) (fn 6 (pr (fn 8 (pr bI _)) _)))) rfl rfl (vX ha).2
 try simp only[aa,ae]at *
 obtain⟨a7,ea7,qa7⟩:=ab ((1)-(E.I F (fn 1 (pr Z0 (.int 34)))))
 grind
def avH:=fb (xI::(.not xz)::HX) qr<|cr fun F p0 p1 p2 p3 p4 p5=>by
 have:=fun ha=>@tj F _ _ _ _ (fn 1 (pr (fn 1 (pr Z0 _)) (fn 6 (pr (fn 8 (pr bI _)) _)))) rfl rfl (uj ha).2
 have:=fun ha=>@tj F _ _ _ _ (fn 1 (pr (fn 1 (pr Z0 _)) (fn 6 (pr (fn 8 (pr bI _)) _)))) rfl rfl (vX ha).2
 try simp only[aa]at *
 grind
def aCM:=fa ((fn 128 (pr Z0 (pr bI (.int 0)))))<|fun F=>by
 rfl
def aqR:=fb ([pQ,si]) (cmp .lss fS (fn 9 (pr (fn 1 (pr Z0 (.int 32))) (.int 2))))<|ax fun F p0 p1=>by
 try simp only[aa]at *
 omega
def aoG:=fb B1 Z62<|aR fun F p0 p1 p2 p3 p4=>by
 have:=aC p0
 try simp only[aa,ae]at *
 obtain⟨a3,ea3,qa3⟩:=ab ((E.I F bI)+(1))
 omega
def anq:=fb (pQ::(.not NJ)::PY::AV::MX) qr<|de fun F p0 p1 p2 p3 p4 p5 p6=>by
 have:=@H8 F _ _ (fn 6 (pr fS (.int 1))) _ p3 _ _ _ _ rfl rfl rfl rfl
 try simp only[aa]at *
 grind
def ahW:=fb QY (.not (cmp .lss (.ar .add .i64 fS (.int 1)) (.int 0)))<|aR fun F p0 p1 p2 p3 p4=>by
 have:=aC p0
 try simp only[aa,ae]at *
 obtain⟨a3,ea3,qa3⟩:=ab ((E.I F fS)+(1))
 omega
def ayh:=fb (pQ::NJ::AV::MX) qr<|cr fun F p0 p1 p2 p3 p4 p5=>by
 have:=@H8 F _ _ (fn 6 (pr fS (.int 1))) _ p2 _ _ _ _ rfl rfl rfl rfl
 try simp only[aa]at *
 grind
def avC:=fb B1 (.not (cmp .lss (fn 9 (pr (fn 1 (pr Z0 (.int 32))) (.int 2))) (.ar .add .i64 bI (.int 1))))<|aR fun F p0 p1 p2 p3 p4=>by
 try simp only[aa,ae]at *
 obtain⟨a3,ea3,qa3⟩:=ab ((E.I F bI)+(1))
 omega
def aF8:=fb ([pQ,td]) (.not (cmp .lss bI (.ar .add .i64 fS (.int 1))))<|ax fun F p0 p1=>by
 try simp only[aa,ae]at *
 obtain⟨a2,ea2,qa2⟩:=ab ((E.I F fS)+(1))
 omega
def avz:=fb (Up::AV::LM::W0::td::XD::si::qU::cZ) (fn 127 (pr Z0 (.ar .add .i64 bI (.int 1))))<|eB fun F p0 p1 p2 p3 p4 p5 p6 p7 p8=>by
 have:=aC p8
 have:=@aM F bI (.int 1)
 have:=@auP F _ _ (.ar .add .i64 bI (.int 1)) _ p5 p2 p1
 try simp only[aa]at *
 grind
def aCk:=fb (pQ::(.not NJ)::(.not PY)::AV::td::si::qU::cZ) (fn 128 (pr Z0 (pr bI (.ar .add .i64 fS (.int 1)))))<|dw fun F p0 p1 p2 p3 p4 p5 p6 p7=>by
 have:=aC p7
 have:=@aM F fS (.int 1)
 have:=@H8 F _ _ (.ar .add .i64 fS (.int 1)) _ p3 _ _ _ _ rfl rfl rfl rfl
 try simp only[aa]at *
 grind
def ay1:=fb B1 (cmp .lss (fn 7 (pr (fn 9 (pr (fn 1 (pr Z0 (.int 32))) (.int 2))) (.ar .add .i64 bI (.int 1)))) (fn 7 (pr (fn 9 (pr (fn 1 (pr Z0 (.int 32))) (.int 2))) bI)))<|aR fun F p0 p1 p2 p3 p4=>by
 have:=aC p0
 try simp only[aa,ae]at *
 obtain⟨a3,ea3,qa3⟩:=ab ((E.I F bI)+(1))
 omega
def ah1:=fb QY (cmp .lss (fn 7 (pr bI (.ar .add .i64 fS (.int 1)))) (fn 7 (pr bI fS)))<|aR fun F p0 p1 p2 p3 p4=>by
 have:=aC p0
 try simp only[aa,ae]at *
 obtain⟨a3,ea3,qa3⟩:=ab ((E.I F fS)+(1))
 omega
def aqX:=fb B1 (.not (cmp .lss (fn 7 (pr (fn 9 (pr (fn 1 (pr Z0 (.int 32))) (.int 2))) (.ar .add .i64 bI (.int 1)))) (.int 0)))<|aR fun F p0 p1 p2 p3 p4=>by
 try simp only[aa,ae]at *
 obtain⟨a3,ea3,qa3⟩:=ab ((E.I F bI)+(1))
 omega
def aB6:=fb ([pQ,td]) (.not (cmp .lss (fn 7 (pr bI (.ar .add .i64 fS (.int 1)))) (.int 0)))<|ax fun F p0 p1=>by
 try simp only[aa,ae]at *
 obtain⟨a2,ea2,qa2⟩:=ab ((E.I F fS)+(1))
 omega
def bp:List Fa:=[adn,UR,amt,XP,Zr,anr,aBr,RB,aqu,aGB,aHm,Vo,abx,avc,axN,awP,Xs,aBe,amu,aCI,aHk,avH,adq,aCM,aqR,aoG,anq,ahW,ayh,avC,aF8,avz,aCk,ay1,ah1,aqX,aB6]
theorem amV:aW Try.prog (bu (amQ)):=sc bp (aHZ) Uh ([]) (by kernel_rfl) (by kernel_rfl)
def Yn:Nl:=nc amV Uh
def ayU:=fb ((cmp .lss (.int 200) (fn 9 (pr (fn 1 (pr Z0 (.int 30))) (.int 5))))::cZ) ci<|ax fun F p0 p1=>by
 have:=aC p1
 try simp only[aa]at *
 grind
def aiV:=fb ((cmp .lss (.int 200) (fn 9 (pr (fn 1 (pr Z0 (.int 29))) (.int 5))))::cZ) ci<|ax fun F p0 p1=>by
 have:=aC p1
 try simp only[aa]at *
 grind
def aDj:=fb ((cmp .lss (.int 500) (fn 9 (pr (fn 1 (pr Z0 (.int 0))) (.int 12))))::cZ) ci<|ax fun F p0 p1=>by
 have:=aC p1
 try simp only[aa]at *
 grind
def ajW:=fb ([JG]) ci<|aB fun F p0=>by
 have:=@cw F Z0
 try simp only[aa]at *
 grind
def ao3:=fb ([KF]) ci<|aB fun F p0=>by
 have:=@cw F Z0
 try simp only[aa]at *
 grind
def azl:=fb ([JD]) ci<|aB fun F p0=>by
 have:=@cw F Z0
 try simp only[aa]at *
 grind
def aGt:=fb ([Jg]) ci<|aB fun F p0=>by
 have:=@cw F Z0
 try simp only[aa]at *
 grind
def atz:=fb ([H7]) ci<|aB fun F p0=>by
 have:=@cw F Z0
 try simp only[aa]at *
 grind
def avo:=fb ([HL]) ci<|aB fun F p0=>by
 have:=@cw F Z0
 try simp only[aa]at *
 grind
def aye:=fb ([H4]) ci<|aB fun F p0=>by
 have:=@cw F Z0
 try simp only[aa]at *
 grind
def aoC:=fb ([Nu]) ci<|aB fun F p0=>by
 have:=@cw F Z0
 try simp only[aa]at *
 grind
def aG0:=fb ([Q8]) ci<|aB fun F p0=>by
 have:=@cw F Z0
 try simp only[aa]at *
 grind
def aq6:=fb ([SS]) ci<|aB fun F p0=>by
 have:=@cw F Z0
 try simp only[aa]at *
 grind
def aDW:=fa ((fn 103 (pr (fn 1 (pr Z0 (.int 29))) (pr oR (.int 0)))))<|fun F=>by
 rfl
def anb:=fb (A4::Z86::(.not wH)::(.not JG)::(.not KF)::(.not JD)::(.not Jg)::(.not H7)::(.not HL)::(.not H4)::(.not Nu)::wC::yQ::Z3::BH) ci<|yW fun F p0 p1 p2 p3 p4 p5 p6 p7 p8 p9 aj ak ao aq av=>by
 have:=@cw F Z0
 have:=fun h0 h1=>@Fj F _ _ (fn 9 (pr (fn 1 (pr Z0 (.int 29))) (.int 5))) _ h0 h1 (fn _ (pr (fn 1 _) (pr (fn 1 _) (pr (fn 1 _) (pr (fn 1 _) (pr (fn 1 (pr (fn 1 (pr Z0 (.int 29))) (fn 6 (pr (fn 8 (pr Z1 _)) _)))) oR)))))) rfl
 try simp only[aa]at *
 grind
def axB:=fb Gi (.not (cmp .lss (.ar .add .i64 Z1 (.int 1)) (.int 0)))<|am fun F p0 p1 p2=>by
 have:=aC p0
 try simp only[aa,ae]at *
 obtain⟨a2,ea2,qa2⟩:=ab ((E.I F Z1)+(1))
 omega
def ag1:=fb cZ (.not (cmp .lss (.int 20) (fn 9 (pr (fn 1 (pr Z0 (.int 30))) (.int 5)))))<|aB fun F p0=>by
 have:=aC p0
 try simp only[aa]at *
 omega
def ao0:=fb Gi (.not (cmp .lss (fn 9 (pr (fn 1 (pr Z0 (.int 29))) (.int 5))) (.ar .add .i64 Z1 (.int 1))))<|am fun F p0 p1 p2=>by
 try simp only[aa,ae]at *
 obtain⟨a2,ea2,qa2⟩:=ab ((E.I F Z1)+(1))
 omega
def aI6:=fb ([(.not A4),SG]) Ce<|ax fun F p0 p1=>by
 have:=fun h1=>@Ga F _ _ (fn 9 (pr (fn 1 (pr Z0 (.int 29))) (.int 5))) _ p1 h1
 try simp only[aa]at *
 grind
def aFY:=fb (A4::Z86::wH::Z3::SG::BH) (fn 103 (pr (fn 1 (pr Z0 (.int 29))) (pr oR (.ar .add .i64 Z1 (.int 1)))))<|cr fun F p0 p1 p2 p3 p4 p5=>by
 have:=aC p3
 have:=@aM F Z1 (.int 1)
 have:=fun h0 hm=>@CO F _ _ (.ar .add .i64 Z1 (.int 1)) _ p4 h0 hm (fn _ (pr (fn 1 _) (pr (fn 1 _) (pr (fn 1 _) (pr (fn 1 _) (pr (fn 1 _) _)))))) rfl
 try simp only[aa]at *
 grind
def apR:=fa ((fn 103 (pr (fn 1 (pr Z0 (.int 30))) (pr tC (.int 0)))))<|fun F=>by
 rfl
def awY:=fb Gi (cmp .lss (fn 7 (pr (fn 9 (pr (fn 1 (pr Z0 (.int 29))) (.int 5))) (.ar .add .i64 Z1 (.int 1)))) (fn 7 (pr (fn 9 (pr (fn 1 (pr Z0 (.int 29))) (.int 5))) Z1)))<|am fun F p0 p1 p2=>by
 have:=aC p0
 try simp only[aa,ae]at *
 obtain⟨a2,ea2,qa2⟩:=ab ((E.I F Z1)+(1))
 omega
def aq3:=fb (yD::O8::(.not pm)::qU::Ce::cZ) ci<|cr fun F p0 p1 p2 p3 p4 p5=>by
 have:=@cw F Z0
 have:=fun h0 h1=>@Fj F _ _ (fn 9 (pr (fn 1 (pr Z0 (.int 30))) (.int 5))) _ h0 h1 (fn _ (pr (fn 1 _) (pr (fn 1 _) (pr (fn 1 _) (pr (fn 1 _) (pr (fn 1 (pr (fn 1 (pr Z0 (.int 30))) (fn 6 (pr (fn 8 (pr bI _)) _)))) tC)))))) rfl
 try simp only[aa]at *
 grind
def amk:=fb (Z3::AW) Z62<|am fun F p0 p1 p2=>by
 have:=aC p0
 try simp only[aa,ae]at *
 obtain⟨a2,ea2,qa2⟩:=ab ((E.I F bI)+(1))
 omega
def ahA:=fb (XO::cZ) ci<|ax fun F p0 p1=>by
 have:=@cw F Z0
 try simp only[aa]at *
 grind
def awo:=fb (eF::aeT::cZ) ci<|am fun F p0 p1 p2=>by
 have:=@cw F Z0
 try simp only[aa]at *
 grind
def aG1:=fb (eF::eR::To::cZ) ci<|aH fun F p0 p1 p2 p3=>by
 have:=@cw F Z0
 try simp only[aa]at *
 grind
def aBd:=fb (eF::eR::fu::Xe::cZ) ci<|aR fun F p0 p1 p2 p3 p4=>by
 have:=@cw F Z0
 try simp only[aa]at *
 grind
def aj4:=fb (O0::cZ) ci<|ax fun F p0 p1=>by
 have:=@cw F Z0
 try simp only[aa]at *
 grind
def aHV:=fb (fK::YL::cZ) ci<|am fun F p0 p1 p2=>by
 have:=@cw F Z0
 try simp only[aa]at *
 grind
def ap9:=fb (eF::eR::fu::fP::fK::gf::Zd::cZ) ci<|dw fun F p0 p1 p2 p3 p4 p5 p6 p7=>by
 have:=@cw F Z0
 try simp only[aa]at *
 grind
def aEf:=fb (eF::eR::fu::fP::fK::gf::gm::XU::cZ) ci<|eB fun F p0 p1 p2 p3 p4 p5 p6 p7 p8=>by
 have:=@cw F Z0
 try simp only[aa]at *
 grind
def aCy:=fb (eF::eR::fu::fP::fK::gf::gm::gA::agH::cZ) ci<|iD fun F p0 p1 p2 p3 p4 p5 p6 p7 p8 p9=>by
 have:=@cw F Z0
 try simp only[aa]at *
 grind
def amq:=fb (eF::eR::fu::fP::fK::gf::gm::gA::gP::SN::cZ) ci<|iu fun F p0 p1 p2 p3 p4 p5 p6 p7 p8 p9 aj=>by
 have:=@cw F Z0
 try simp only[aa]at *
 grind
def avF:=fb (eF::eR::fu::fP::fK::gf::gm::gA::gP::jP::TR::cZ) ci<|lf fun F p0 p1 p2 p3 p4 p5 p6 p7 p8 p9 aj ak=>by
 have:=@cw F Z0
 try simp only[aa]at *
 grind
def atG:=fb (eF::eR::fu::fP::fK::gf::gm::gA::gP::jP::lN::QZ::cZ) ci<|iN fun F p0 p1 p2 p3 p4 p5 p6 p7 p8 p9 aj ak ao=>by
 have:=@cw F Z0
 try simp only[aa]at *
 grind
def akN:=fb (eF::eR::fu::fP::fK::gf::gm::gA::gP::jP::lN::np::aaL::cZ) ci<|rX fun F p0 p1 p2 p3 p4 p5 p6 p7 p8 p9 aj ak ao aq=>by
 have:=@cw F Z0
 try simp only[aa]at *
 grind
def axn:=fb (eF::eR::fu::fP::fK::gf::gm::gA::gP::adV::cZ) ci<|iu fun F p0 p1 p2 p3 p4 p5 p6 p7 p8 p9 aj=>by
 have:=@cw F Z0
 try simp only[aa]at *
 grind
def avO:=fb (eF::eR::fu::fP::fK::gf::gm::gA::gP::ro::Vg::cZ) ci<|lf fun F p0 p1 p2 p3 p4 p5 p6 p7 p8 p9 aj ak=>by
 have:=@cw F Z0
 try simp only[aa]at *
 grind
def avr:=fb (eF::eR::fu::fP::fK::gf::gm::gA::gP::jP::lN::np::sC::ro::tM::aeo::cZ) ci<|ED fun F p0 p1 p2 p3 p4 p5 p6 p7 p8 p9 aj ak ao aq av az aG=>by
 have:=@cw F Z0
 try simp only[aa]at *
 grind
def azF:=fb (eF::eR::fu::fP::fK::gf::gm::gA::gP::jP::lN::np::sC::ro::tM::zz::afZ::cZ) ci<|yR fun F p0 p1 p2 p3 p4 p5 p6 p7 p8 p9 aj ak ao aq av az aG ap=>by
 have:=@cw F Z0
 try simp only[aa]at *
 grind
def aJb:=fb (eF::eR::fu::fP::fK::gf::gm::gA::gP::jP::lN::np::sC::ro::tM::zz::Cy::FX::cZ) ci<|Ee fun F p0 p1 p2 p3 p4 p5 p6 p7 p8 p9 aj ak ao aq av az aG ap au=>by
 have:=@cw F Z0
 try simp only[aa]at *
 grind
def aHK:=fb ((.not yD)::eF::eR::fu::fP::fK::gf::gm::gA::gP::jP::lN::np::sC::ro::tM::zz::Cy::(.not FX)::T4::pm::(.iff xR GI)::(.not agc)::(.not Wm)::(.not YQ)::(.not abn)::(.not Sz)::(.not PC)::(.not Py)::(.not Wp)::(.not ab1)::(.not P7)::Hj::Ce::(.not JG)::(.not KF)::(.not JD)::(.not Jg)::(.not H7)::(.not HL)::(.not H4)::(.not Nu)::wC::yQ::cZ) (.iff xR (fn 130 Z0))<|aqP fun F p0 p1 p2 p3 p4 p5 p6 p7 p8 p9 aj ak ao aq av az aG ap au aF aL aD aE aO aQ aV bb bp bD bL bO ce df eJ fC gp iK lH qS sn rg rG qH sH o7=>by
 have:=aC o7
 have:=@cw F Z0
 have:=fun h1=>@Ga F _ _ (fn 9 (pr (fn 1 (pr Z0 (.int 30))) (.int 5))) _ df h1
 try simp only[aa]at *
 grind
def auX:=fb ((.not yD)::eF::eR::fu::fP::fK::gf::gm::gA::gP::jP::lN::np::sC::ro::tM::zz::Cy::(.not FX)::T4::(.not pm)::Hj::Ce::cZ) ci<|Oe fun F p0 p1 p2 p3 p4 p5 p6 p7 p8 p9 aj ak ao aq av az aG ap au aF aL aD aE aO=>by
 have:=@cw F Z0
 simp_all
def aBg:=fb (eF::eR::fu::fP::fK::gf::gm::gA::gP::jP::lN::np::sC::ro::tM::zz::Cy::(.not FX)::P7::cZ) ci<|S8 fun F p0 p1 p2 p3 p4 p5 p6 p7 p8 p9 aj ak ao aq av az aG ap au aF=>by
 have:=@cw F Z0
 try simp only[aa]at *
 grind
def atj:=fb (eF::eR::fu::fP::fK::gf::gm::gA::gP::jP::lN::np::sC::ab1::cZ) ci<|yW fun F p0 p1 p2 p3 p4 p5 p6 p7 p8 p9 aj ak ao aq av=>by
 have:=@cw F Z0
 try simp only[aa]at *
 grind
def axi:=fb (eF::eR::fu::fP::fK::gf::gm::gA::gP::jP::lN::np::Wp::cZ) ci<|rX fun F p0 p1 p2 p3 p4 p5 p6 p7 p8 p9 aj ak ao aq=>by
 have:=@cw F Z0
 try simp only[aa]at *
 grind
def ajX:=fb (eF::eR::fu::fP::fK::gf::gm::gA::gP::jP::lN::Py::cZ) ci<|iN fun F p0 p1 p2 p3 p4 p5 p6 p7 p8 p9 aj ak ao=>by
 have:=@cw F Z0
 try simp only[aa]at *
 grind
def aoi:=fb (eF::eR::fu::fP::fK::gf::gm::gA::gP::jP::PC::cZ) ci<|lf fun F p0 p1 p2 p3 p4 p5 p6 p7 p8 p9 aj ak=>by
 have:=@cw F Z0
 try simp only[aa]at *
 grind
def ajd:=fb (eF::eR::fu::fP::fK::gf::gm::gA::gP::Sz::cZ) ci<|iu fun F p0 p1 p2 p3 p4 p5 p6 p7 p8 p9 aj=>by
 have:=@cw F Z0
 try simp only[aa]at *
 grind
def amH:=fb (eF::eR::fu::fP::abn::cZ) ci<|cr fun F p0 p1 p2 p3 p4 p5=>by
 have:=@cw F Z0
 try simp only[aa]at *
 grind
def aFJ:=fb (eF::eR::fu::YQ::cZ) ci<|aR fun F p0 p1 p2 p3 p4=>by
 have:=@cw F Z0
 try simp only[aa]at *
 grind
def aGa:=fb Gi (.not (cmp .lss (fn 7 (pr (fn 9 (pr (fn 1 (pr Z0 (.int 29))) (.int 5))) (.ar .add .i64 Z1 (.int 1)))) (.int 0)))<|am fun F p0 p1 p2=>by
 try simp only[aa,ae]at *
 obtain⟨a2,ea2,qa2⟩:=ab ((E.I F Z1)+(1))
 omega
def agv:=fb AW (.not (cmp .lss (fn 9 (pr (fn 1 (pr Z0 (.int 30))) (.int 5))) (.ar .add .i64 bI (.int 1))))<|ax fun F p0 p1=>by
 try simp only[aa,ae]at *
 obtain⟨a2,ea2,qa2⟩:=ab ((E.I F bI)+(1))
 omega
def apU:=fb (eF::eR::Wm::cZ) ci<|aH fun F p0 p1 p2 p3=>by
 have:=@cw F Z0
 try simp only[aa]at *
 grind
def avU:=fb (eF::agc::cZ) ci<|am fun F p0 p1 p2=>by
 have:=@cw F Z0
 try simp only[aa]at *
 grind
def ahj:=fb (yD::O8::pm::Hj::qU::cZ) (fn 103 (pr (fn 1 (pr Z0 (.int 30))) (pr tC (.ar .add .i64 bI (.int 1)))))<|cr fun F p0 p1 p2 p3 p4 p5=>by
 have:=aC p5
 have:=@aM F bI (.int 1)
 have:=fun h0 hm=>@CO F _ _ (.ar .add .i64 bI (.int 1)) _ p3 h0 hm (fn _ (pr (fn 1 _) (pr (fn 1 _) (pr (fn 1 _) (pr (fn 1 _) (pr (fn 1 _) _)))))) rfl
 try simp only[aa]at *
 grind
def anZ:=fb (Z3::AW) (cmp .lss (fn 7 (pr (fn 9 (pr (fn 1 (pr Z0 (.int 30))) (.int 5))) (.ar .add .i64 bI (.int 1)))) (fn 7 (pr (fn 9 (pr (fn 1 (pr Z0 (.int 30))) (.int 5))) bI)))<|am fun F p0 p1 p2=>by
 have:=aC p0
 try simp only[aa,ae]at *
 obtain⟨a2,ea2,qa2⟩:=ab ((E.I F bI)+(1))
 omega
def US:=fb AW (.not (cmp .lss (fn 7 (pr (fn 9 (pr (fn 1 (pr Z0 (.int 30))) (.int 5))) (.ar .add .i64 bI (.int 1)))) (.int 0)))<|ax fun F p0 p1=>by
 try simp only[aa,ae]at *
 obtain⟨a2,ea2,qa2⟩:=ab ((E.I F bI)+(1))
 omega
def bD:List Fa:=[ayU,y7,aiV,aDj,ajW,ao3,azl,aGt,atz,avo,aye,aoC,aG0,aq6,aDW,anb,axB,ag1,ao0,aI6,aFY,apR,awY,aq3,amk,ahA,awo,aG1,aBd,aj4,aHV,ap9,aEf,aCy,amq,avF,atG,akN,axn,avO,avr,azF,aJb,aHK,auX,aBg,atj,axi,ajX,aoi,ajd,amH,aFJ,aGa,agv,apU,avU,ahj,anZ,US]
theorem ajF:aW Try.prog (bu (ahP)):=sc bD (aEy) Yn ([]) (by kernel_rfl) (by kernel_rfl)
def adU:Nl:=nc ajF Yn
end
end Go.Proofs.Ytnnbmcfabojjjaa.payHolds
