/-
  PayColours: contracts of functions, part 5.
-/
import Derived.Test.YtnnbmcfabojjjaaRows
import Derived.Test.YtnnbmcfabojjjaaNat
import Derived.WalkKit
import Derived.ProofKit
import Derived.OpenShut
import Derived.ChangeOld
import Derived.Below
import Derived.KernelRfl
import Derived.Lib.SmallJoins
import Derived.Laws.IdiomArrays
import Derived.Test.YtnnbmcfabojjjaaPayColoursPartd
namespace Go.Proofs.Ytnnbmcfabojjjaa.payColours
open Go.ChangeShapes Go.WideShapes Go.ChangeAt Go.RowKit
open Go.SX
open Go.SX.E (fn pr cmp var)
set_option linter.unusedVariables false
set_option linter.unusedSimpArgs false
set_option maxRecDepth 100000
noncomputable section
abbrev Z0:E:=var 0
abbrev Z1:E:=var 8
abbrev Z2:E:=cmp .lss Z1 (fn 0 (fn 1 (pr Z0 (.int 31))))
abbrev Z3:E:=fn 117 Z0
abbrev Z4:E:=pr Z0 Z1
abbrev Z5:E:=fn 126 Z4
abbrev Z6:E:=pr Z0 (fn 0 (fn 1 (pr Z0 (.int 31))))
abbrev Z7:E:=fn 126 Z6
abbrev Z8:E:=cmp .eql (fn 1 (pr Z0 (.int 34))) (.int 0)
abbrev Z9:E:=cmp .eql (var 10) (fn 121 (pr (fn 1 (pr Z0 (.int 22))) (fn 1 (pr (fn 1 (pr Z0 (.int 31))) Z1))))
abbrev A6:E:=cmp .eql (var 10) (.int 1)
abbrev Xq:E:=cmp .lss (.int 1) (fn 1 (pr Z0 (.int 34)))
abbrev xD:E:=.not Xq
abbrev Z13:E:=cmp .lss (fn 1 (pr Z0 (.int 34))) (.int 0)
abbrev xI:E:=.not Z13
abbrev Z15:E:=cmp .lss Z1 (.int 0)
abbrev Z16:E:=.not Z15
abbrev Ef:=[Z16]
abbrev JF:=Z5::Ef
abbrev Z19:=xI::JF
abbrev PC:=xD::Z19
abbrev oS:E:=.bool false
abbrev JE:E:=fn 129 Z0
abbrev pz:E:=.iff oS JE
abbrev Qr:E:=cmp .eql (var 10) (fn 121 (pr (fn 1 (pr Z0 (.int 8))) (fn 1 (pr (fn 1 (pr Z0 (.int 31))) Z1))))
abbrev zl:E:=var 9
abbrev Kp:E:=cmp .eql zl (fn 121 (pr (fn 1 (pr Z0 (.int 31))) (fn 1 (pr (fn 1 (pr Z0 (.int 31))) Z1))))
abbrev H9:E:=cmp .eql zl (.int 1)
abbrev bv:E:=var 16
abbrev pM:E:=cmp .lss bv (fn 9 (pr (fn 1 (pr Z0 (.int 32))) (.int 2)))
abbrev Uv:E:=pr Z0 bv
abbrev NQ:E:=fn 127 Uv
abbrev vp:E:=.bool true
abbrev Z33:=Z3::JF
abbrev Z34:E:=pr Z0 (.ar .add .i64 Z1 (.int 1))
abbrev Z35:E:=fn 126 Z34
abbrev pj:E:=var 17
abbrev zF:E:=cmp .eql pj (fn 121 (pr (fn 1 (pr Z0 (.int 31))) (fn 1 (pr (fn 1 (pr Z0 (.int 32))) (fn 6 (pr (fn 8 (pr bv (.int 2))) (.int 1)))))))
abbrev vH:E:=cmp .eql pj (.int 1)
abbrev BG:E:=cmp .eql (.ar .sub .i64 (.int 1) (fn 1 (pr Z0 (.int 34)))) (.int 0)
abbrev yf:E:=var 18
abbrev Z41:E:=cmp .eql yf (fn 121 (pr (fn 1 (pr Z0 (.int 22))) (fn 1 (pr (fn 1 (pr Z0 (.int 32))) (fn 6 (pr (fn 8 (pr bv (.int 2))) (.int 0)))))))
abbrev Xl:E:=cmp .eql yf (.int 1)
abbrev rC:E:=.not (cmp .lss bv (.int 0))
abbrev Z44:=[xD,xI]
abbrev Z45:=rC::Z44
abbrev LG:=pM::Z45
abbrev YH:List E:=(.not Xl)::LG
abbrev ZH:=Xl::LG
abbrev Ik:E:=fn 136 Uv
abbrev WS:E:=cmp .eql yf (fn 121 (pr (fn 1 (pr Z0 (.int 8))) (fn 1 (pr (fn 1 (pr Z0 (.int 32))) (fn 6 (pr (fn 8 (pr bv (.int 2))) (.int 0)))))))
abbrev eR:E:=var 24
abbrev pI:E:=cmp .lss eR bv
abbrev Z53:E:=.not pI
abbrev Z54:E:=cmp .lss bv eR
abbrev YO:E:=.not Z54
abbrev uq:E:=.not (cmp .lss eR (.int 0))
abbrev Z57:=[uq,pM]
abbrev Z58:=YO::Z57
abbrev Z59:=Z53::Z58
abbrev Bm:=Z3::Z59
abbrev Z61:E:=cmp .lss (.ar .add .i64 bv (.int 1)) (.int 0)
abbrev Z62:E:=.not Z61
abbrev Kj:E:=cmp .eql (fn 1 (pr (fn 1 (pr Z0 (.int 32))) (fn 6 (pr (fn 8 (pr eR (.int 2))) (.int 1))))) (fn 1 (pr (fn 1 (pr Z0 (.int 32))) (fn 6 (pr (fn 8 (pr bv (.int 2))) (.int 1)))))
abbrev Z64:E:=cmp .eql (fn 1 (pr (fn 1 (pr Z0 (.int 32))) (fn 6 (pr (fn 8 (pr eR (.int 2))) (.int 0))))) (fn 1 (pr (fn 1 (pr Z0 (.int 32))) (fn 6 (pr (fn 8 (pr bv (.int 2))) (.int 0)))))
abbrev EF:E:=fn 128 (pr Z0 (pr bv eR))
abbrev Z66:=[pM,rC]
abbrev Lz:=uq::Z66
abbrev Wm:=Z3::pI::Lz
abbrev cy:=[Z3]
abbrev bX:E:=.iff oS (fn 130 Z0)
abbrev JT:E:=cmp .lss (.int 2) (fn 1 (pr Z0 (.int 37)))
abbrev Ml:E:=cmp .lss (fn 1 (pr Z0 (.int 37))) (.int 0)
abbrev Li:E:=cmp .lss (.int 1) (fn 1 (pr Z0 (.int 36)))
abbrev IW:E:=cmp .lss (fn 1 (pr Z0 (.int 36))) (.int (-1))
abbrev Hb:E:=cmp .lss (.int 10) (fn 1 (pr Z0 (.int 35)))
abbrev LI:E:=cmp .lss (fn 1 (pr Z0 (.int 35))) (.int 0)
abbrev MQ:E:=cmp .lss (.int 1000) (fn 1 (pr Z0 (.int 33)))
abbrev KB:E:=cmp .lss (fn 1 (pr Z0 (.int 33))) (.int 0)
abbrev Ec:E:=cmp .lss Z1 (fn 9 (pr (fn 1 (pr Z0 (.int 29))) (.int 5)))
abbrev Z80:E:=pr (fn 1 (pr (fn 1 (pr Z0 (.int 29))) (fn 6 (pr (fn 8 (pr Z1 (.int 5))) (.int 4))))) oS
abbrev Z81:E:=pr (fn 1 (pr (fn 1 (pr Z0 (.int 29))) (fn 6 (pr (fn 8 (pr Z1 (.int 5))) (.int 3))))) Z80
abbrev Z82:E:=pr (fn 1 (pr (fn 1 (pr Z0 (.int 29))) (fn 6 (pr (fn 8 (pr Z1 (.int 5))) (.int 2))))) Z81
abbrev Z83:E:=pr (fn 1 (pr (fn 1 (pr Z0 (.int 29))) (fn 6 (pr (fn 8 (pr Z1 (.int 5))) (.int 1))))) Z82
abbrev Z84:E:=pr (fn 1 (pr (fn 1 (pr Z0 (.int 29))) (fn 6 (pr (fn 8 (pr Z1 (.int 5))) (.int 0))))) Z83
abbrev Z85:E:=fn 102 Z84
abbrev Z86:E:=.iff zl Z85
abbrev Z87:=Ec::Ef
abbrev C7:=Z3::Z87
abbrev Z89:E:=pr (fn 1 (pr Z0 (.int 29))) (pr oS Z1)
abbrev Z90:E:=fn 103 Z89
abbrev BP:E:=fn 103 (pr (fn 1 (pr Z0 (.int 29))) (pr oS (fn 9 (pr (fn 1 (pr Z0 (.int 29))) (.int 5)))))
abbrev xE:E:=cmp .lss bv (fn 9 (pr (fn 1 (pr Z0 (.int 30))) (.int 5)))
abbrev Z93:E:=pr (fn 1 (pr (fn 1 (pr Z0 (.int 30))) (fn 6 (pr (fn 8 (pr bv (.int 5))) (.int 4))))) vp
abbrev Z94:E:=pr (fn 1 (pr (fn 1 (pr Z0 (.int 30))) (fn 6 (pr (fn 8 (pr bv (.int 5))) (.int 3))))) Z93
abbrev Z95:E:=pr (fn 1 (pr (fn 1 (pr Z0 (.int 30))) (fn 6 (pr (fn 8 (pr bv (.int 5))) (.int 2))))) Z94
abbrev Z96:E:=pr (fn 1 (pr (fn 1 (pr Z0 (.int 30))) (fn 6 (pr (fn 8 (pr bv (.int 5))) (.int 1))))) Z95
abbrev Z97:E:=pr (fn 1 (pr (fn 1 (pr Z0 (.int 30))) (fn 6 (pr (fn 8 (pr bv (.int 5))) (.int 0))))) Z96
abbrev Z98:E:=fn 102 Z97
abbrev Rw:E:=.iff pj Z98
abbrev zG:=[xE,rC]
abbrev TB:E:=cmp .lss (fn 1 (pr Z0 (.int 2))) (.int 0)
abbrev dL:E:=.not TB
abbrev ZL:E:=cmp .lss (fn 1 (pr Z0 (.int 3))) (.int 0)
abbrev dX:E:=.not ZL
abbrev adW:E:=cmp .lss (fn 1 (pr Z0 (.int 4))) (.int 0)
abbrev eD:E:=.not adW
abbrev RW:E:=cmp .lss (fn 1 (pr Z0 (.int 5))) (.int 0)
abbrev abF:E:=cmp .lss (fn 1 (pr Z0 (.int 1))) (.int 0)
abbrev eP:E:=.not abF
abbrev U6:E:=cmp .lss (.int 9999) (fn 1 (pr Z0 (.int 1)))
abbrev eQ:E:=.not RW
abbrev fe:E:=.not U6
abbrev acK:E:=cmp .lss (fn 1 (pr Z0 (.int 13))) (.int 0)
abbrev fB:E:=.not acK
abbrev Ti:E:=cmp .lss (.int 7) (fn 1 (pr Z0 (.int 13)))
abbrev fV:E:=.not Ti
abbrev WU:E:=cmp .lss (fn 1 (pr Z0 (.int 14))) (.int 0)
abbrev gg:E:=.not WU
abbrev abu:E:=cmp .lss (fn 1 (pr Z0 (.int 16))) (.int 0)
abbrev iU:E:=.not abu
abbrev ZZ:E:=cmp .lss (fn 1 (pr Z0 (.int 17))) (.int 0)
abbrev kV:E:=.not ZZ
abbrev adB:E:=cmp .lss (fn 1 (pr Z0 (.int 18))) (.int 0)
abbrev mr:E:=.not adB
abbrev UD:E:=cmp .lss (fn 1 (pr Z0 (.int 19))) (.int 0)
abbrev WO:E:=cmp .lss (fn 1 (pr Z0 (.int 15))) (.int 0)
abbrev re:E:=.not WO
abbrev Oq:E:=cmp .lss (.int 9999) (fn 1 (pr Z0 (.int 15)))
abbrev rf:E:=.not UD
abbrev sT:E:=.not Oq
abbrev aci:E:=cmp .lss (fn 1 (pr Z0 (.int 27))) (.int 0)
abbrev yg:E:=.not aci
abbrev QJ:E:=cmp .lss (.int 7) (fn 1 (pr Z0 (.int 27)))
abbrev Ch:E:=.not QJ
abbrev C6:E:=cmp .lss (fn 1 (pr Z0 (.int 28))) (.int 0)
abbrev aew:E:=.iff pj (fn 125 Z0)
abbrev WY:E:=cmp .lss (.int 99) (fn 1 (pr Z0 (.int 2)))
abbrev aac:E:=cmp .lss (.int 99) (fn 1 (pr Z0 (.int 3)))
abbrev adS:E:=cmp .lss (.int 99) (fn 1 (pr Z0 (.int 4)))
abbrev XJ:E:=cmp .lss (.int 99) (fn 1 (pr Z0 (.int 5)))
abbrev aep:E:=cmp .lss (.int 255) (fn 1 (pr Z0 (.int 14)))
abbrev ac0:E:=cmp .lss (.int 99) (fn 1 (pr Z0 (.int 16)))
abbrev P1:E:=cmp .lss (.int 99) (fn 1 (pr Z0 (.int 17)))
abbrev Ts:E:=cmp .lss (.int 99) (fn 1 (pr Z0 (.int 18)))
abbrev Yw:E:=cmp .lss (.int 99) (fn 1 (pr Z0 (.int 19)))
abbrev QP:E:=cmp .lss (.int 255) (fn 1 (pr Z0 (.int 28)))
abbrev Hx:E:=fn 103 (pr (fn 1 (pr Z0 (.int 30))) (pr vp bv))
def aqs:=fa ((fn 126 (pr Z0 (.int 0))))<|fun F=>by
 rfl
def amf:=fb ([(.not Z2),Z3,Z5,(.not (cmp .lss (fn 0 (fn 1 (pr Z0 (.int 31)))) Z1))]) Z7<|aF fun F p0 p1 p2 p3=>by
 have g0:E.I F (fn 0 (fn 1 (pr Z0 (.int 31))))=E.I F Z1:=by
  try simp only[ab]at *
  omega
 grind[aBe]
def asl:=fb (Z2::(.not Z8)::Z9::(.not A6)::PC) pz<|cU fun F p0 p1 p2 p3 p4 p5 p6 p7=>by
 have:=fun ha=>@th F _ (fn 6 (pr Z1 (.int 1))) _ _ p6 _ rfl (uA ha).1
 try simp only[ab]at *
 grind
def aoV:=fb (Z2::Z8::Qr::(.not A6)::JF) pz<|bU fun F p0 p1 p2 p3 p4 p5=>by
 have:=fun ha=>@th F _ (fn 6 (pr Z1 (.int 1))) _ _ p4 _ rfl (tq ha).1
 try simp only[ab]at *
 grind
def aiq:=fb (Z2::Kp::(.not H9)::PC) pz<|ck fun F p0 p1 p2 p3 p4 p5 p6=>by
 have:=fun ha=>@th F _ (fn 6 (pr Z1 (.int 1))) _ _ p5 _ rfl (tq ha).1
 have:=fun ha=>@th F _ (fn 6 (pr Z1 (.int 1))) _ _ p5 _ rfl (uA ha).1
 try simp only[ab]at *
 grind
def amV:=fa ((fn 127 (pr Z0 (.int 0))))<|fun F=>by
 rfl
def aml:=fb ([(.not pM),NQ,Z7,(.not (cmp .lss (fn 9 (pr (fn 1 (pr Z0 (.int 32))) (.int 2))) bv))]) (.iff vp JE)<|aF fun F p0 p1 p2 p3=>by
 have:=@ahI F _ _ p2 p1
 try simp only[ab]at *
 grind
def axh:=fb (Z2::Kp::H9::(.not Z8)::Z9::A6::xD::xI::Z33) Z35<|gk fun F p0 p1 p2 p3 p4 p5 p6 p7 p8 p9 ao=>by
 have:=aw p8
 have:=@aA F Z1 (.int 1)
 have:=fun ha=>@th F _ (.ar .add .i64 Z1 (.int 1)) _ _ p9 _ rfl (uA ha).1
 try simp only[ab]at *
 grind
def aoT:=fb (Z2::Kp::H9::Z8::Qr::A6::Z33) Z35<|dK fun F p0 p1 p2 p3 p4 p5 p6 p7 p8=>by
 have:=aw p6
 have:=@aA F Z1 (.int 1)
 have:=fun ha=>@th F _ (.ar .add .i64 Z1 (.int 1)) _ _ p7 _ rfl (tq ha).1
 try simp only[ab]at *
 grind
def apL:=fb (zF::vH::(.not BG)::Z41::YH) pz<|dK fun F p0 p1 p2 p3 p4 p5 p6 p7 p8=>by
 have:=fun ha=>@uM F _ _ _ _ (fn 1 (pr (fn 1 (pr Z0 _)) (fn 6 (pr (fn 8 (pr bv _)) _)))) rfl rfl (tq ha).2
 try simp only[ab,aj]at *
 obtain⟨a7,ea7,qa7⟩:=ah ((1)-(E.I F (fn 1 (pr Z0 (.int 34)))))
 grind
def agw:=fb (zF::vH::(.not BG)::Z41::ZH) Ik<|dK fun F p0 p1 p2 p3 p4 p5 p6 p7 p8=>by
 have:=fun ha=>@uM F _ _ _ _ (fn 1 (pr (fn 1 (pr Z0 _)) (fn 6 (pr (fn 8 (pr bv _)) _)))) rfl rfl (tq ha).2
 try simp only[ab,aj]at *
 obtain⟨a7,ea7,qa7⟩:=ah ((1)-(E.I F (fn 1 (pr Z0 (.int 34)))))
 grind
def aBI:=fb (zF::vH::BG::WS::YH) pz<|dK fun F p0 p1 p2 p3 p4 p5 p6 p7 p8=>by
 have:=fun ha=>@uM F _ _ _ _ (fn 1 (pr (fn 1 (pr Z0 _)) (fn 6 (pr (fn 8 (pr bv _)) _)))) rfl rfl (uA ha).2
 try simp only[ab,aj]at *
 obtain⟨a7,ea7,qa7⟩:=ah ((1)-(E.I F (fn 1 (pr Z0 (.int 34)))))
 grind
def am4:=fb (zF::vH::BG::WS::ZH) Ik<|dK fun F p0 p1 p2 p3 p4 p5 p6 p7 p8=>by
 have:=fun ha=>@uM F _ _ _ _ (fn 1 (pr (fn 1 (pr Z0 _)) (fn 6 (pr (fn 8 (pr bv _)) _)))) rfl rfl (uA ha).2
 try simp only[ab,aj]at *
 obtain⟨a7,ea7,qa7⟩:=ah ((1)-(E.I F (fn 1 (pr Z0 (.int 34)))))
 grind
def aAL:=fb (zF::(.not vH)::LG) pz<|bU fun F p0 p1 p2 p3 p4 p5=>by
 have:=fun ha=>@uM F _ _ _ _ (fn 1 (pr (fn 1 (pr Z0 _)) (fn 6 (pr (fn 8 (pr bv _)) _)))) rfl rfl (tq ha).2
 have:=fun ha=>@uM F _ _ _ _ (fn 1 (pr (fn 1 (pr Z0 _)) (fn 6 (pr (fn 8 (pr bv _)) _)))) rfl rfl (uA ha).2
 try simp only[ab]at *
 grind
def aET:=fa ((fn 128 (pr Z0 (pr bv (.int 0)))))<|fun F=>by
 rfl
def az6:=fb ([pI,pM]) (cmp .lss eR (fn 9 (pr (fn 1 (pr Z0 (.int 32))) (.int 2))))<|au fun F p0 p1=>by
 try simp only[ab]at *
 omega
def aGf:=fb Bm Z62<|aT fun F p0 p1 p2 p3 p4=>by
 have:=aw p0
 try simp only[ab,aj]at *
 obtain⟨a3,ea3,qa3⟩:=ah ((E.I F bv)+(1))
 omega
def az7:=fb (pI::(.not Kj)::Z64::EF::Lz) pz<|ck fun F p0 p1 p2 p3 p4 p5 p6=>by
 have:=@HF F _ _ (fn 6 (pr eR (.int 1))) _ p3 _ _ _ _ rfl rfl rfl rfl
 try simp only[ab]at *
 grind
def aFr:=fb Wm (.not (cmp .lss (.ar .add .i64 eR (.int 1)) (.int 0)))<|aT fun F p0 p1 p2 p3 p4=>by
 have:=aw p0
 try simp only[ab,aj]at *
 obtain⟨a3,ea3,qa3⟩:=ah ((E.I F eR)+(1))
 omega
def aEu:=fb (pI::Kj::EF::Lz) pz<|bU fun F p0 p1 p2 p3 p4 p5=>by
 have:=@HF F _ _ (fn 6 (pr eR (.int 1))) _ p2 _ _ _ _ rfl rfl rfl rfl
 try simp only[ab]at *
 grind
def ak7:=fb Bm (.not (cmp .lss (fn 9 (pr (fn 1 (pr Z0 (.int 32))) (.int 2))) (.ar .add .i64 bv (.int 1))))<|aT fun F p0 p1 p2 p3 p4=>by
 try simp only[ab,aj]at *
 obtain⟨a3,ea3,qa3⟩:=ah ((E.I F bv)+(1))
 omega
def aDw:=fb ([pI,uq]) (.not (cmp .lss bv (.ar .add .i64 eR (.int 1))))<|au fun F p0 p1=>by
 try simp only[ab,aj]at *
 obtain⟨a2,ea2,qa2⟩:=ah ((E.I F eR)+(1))
 omega
def atQ:=fb (Z53::EF::Ik::YO::uq::NQ::pM::rC::cy) (fn 127 (pr Z0 (.ar .add .i64 bv (.int 1))))<|dK fun F p0 p1 p2 p3 p4 p5 p6 p7 p8=>by
 have:=aw p8
 have:=@aA F bv (.int 1)
 have:=@aF7 F _ _ (.ar .add .i64 bv (.int 1)) _ p5 p2 p1
 try simp only[ab]at *
 grind
def aAJ:=fb (pI::(.not Kj)::(.not Z64)::EF::uq::pM::rC::cy) (fn 128 (pr Z0 (pr bv (.ar .add .i64 eR (.int 1)))))<|cU fun F p0 p1 p2 p3 p4 p5 p6 p7=>by
 have:=aw p7
 have:=@aA F eR (.int 1)
 have:=@HF F _ _ (.ar .add .i64 eR (.int 1)) _ p3 _ _ _ _ rfl rfl rfl rfl
 try simp only[ab]at *
 grind
def asc:=fb Bm (cmp .lss (fn 7 (pr (fn 9 (pr (fn 1 (pr Z0 (.int 32))) (.int 2))) (.ar .add .i64 bv (.int 1)))) (fn 7 (pr (fn 9 (pr (fn 1 (pr Z0 (.int 32))) (.int 2))) bv)))<|aT fun F p0 p1 p2 p3 p4=>by
 have:=aw p0
 try simp only[ab,aj]at *
 obtain⟨a3,ea3,qa3⟩:=ah ((E.I F bv)+(1))
 omega
def aEQ:=fb Wm (cmp .lss (fn 7 (pr bv (.ar .add .i64 eR (.int 1)))) (fn 7 (pr bv eR)))<|aT fun F p0 p1 p2 p3 p4=>by
 have:=aw p0
 try simp only[ab,aj]at *
 obtain⟨a3,ea3,qa3⟩:=ah ((E.I F eR)+(1))
 omega
def ayl:=fb Bm (.not (cmp .lss (fn 7 (pr (fn 9 (pr (fn 1 (pr Z0 (.int 32))) (.int 2))) (.ar .add .i64 bv (.int 1)))) (.int 0)))<|aT fun F p0 p1 p2 p3 p4=>by
 try simp only[ab,aj]at *
 obtain⟨a3,ea3,qa3⟩:=ah ((E.I F bv)+(1))
 omega
def aAe:=fb ([pI,uq]) (.not (cmp .lss (fn 7 (pr bv (.ar .add .i64 eR (.int 1)))) (.int 0)))<|au fun F p0 p1=>by
 try simp only[ab,aj]at *
 obtain⟨a2,ea2,qa2⟩:=ah ((E.I F eR)+(1))
 omega
def dY:List Fa:=[Si,Uu,aqs,ac3,aab,amf,asl,NE,aoV,aiq,amV,RX,ace,aml,axh,aoT,ad2,apL,agw,aBI,am4,aAL,aaq,aET,az6,aGf,az7,aFr,aEu,ak7,aDw,atQ,aAJ,asc,aEQ,ayl,aAe]
theorem arv:aU Try.prog (bn (azh)):=sc dY (afX) adn ([]) (by kernel_rfl) (by kernel_rfl)
def aa9:Nl:=nc arv adn
def auL:=fb ((cmp .lss (.int 200) (fn 9 (pr (fn 1 (pr Z0 (.int 30))) (.int 5))))::cy) bX<|au fun F p0 p1=>by
 have:=aw p1
 try simp only[ab]at *
 grind
def afU:=fb ((cmp .lss (.int 200) (fn 9 (pr (fn 1 (pr Z0 (.int 29))) (.int 5))))::cy) bX<|au fun F p0 p1=>by
 have:=aw p1
 try simp only[ab]at *
 grind
def awZ:=fb ((cmp .lss (.int 500) (fn 9 (pr (fn 1 (pr Z0 (.int 0))) (.int 12))))::cy) bX<|au fun F p0 p1=>by
 have:=aw p1
 try simp only[ab]at *
 grind
def aGJ:=fb ([JT]) bX<|az fun F p0=>by
 have:=@cg F Z0
 try simp only[ab]at *
 grind
def af2:=fb ([Ml]) bX<|az fun F p0=>by
 have:=@cg F Z0
 try simp only[ab]at *
 grind
def asQ:=fb ([Li]) bX<|az fun F p0=>by
 have:=@cg F Z0
 try simp only[ab]at *
 grind
def aDA:=fb ([IW]) bX<|az fun F p0=>by
 have:=@cg F Z0
 try simp only[ab]at *
 grind
def ajp:=fb ([Hb]) bX<|az fun F p0=>by
 have:=@cg F Z0
 try simp only[ab]at *
 grind
def axk:=fb ([LI]) bX<|az fun F p0=>by
 have:=@cg F Z0
 try simp only[ab]at *
 grind
def aCu:=fb ([MQ]) bX<|az fun F p0=>by
 have:=@cg F Z0
 try simp only[ab]at *
 grind
def auz:=fb ([KB]) bX<|az fun F p0=>by
 have:=@cg F Z0
 try simp only[ab]at *
 grind
def alz:=fb ([Xq]) bX<|az fun F p0=>by
 have:=@cg F Z0
 try simp only[ab]at *
 grind
def aiW:=fb ([Z13]) bX<|az fun F p0=>by
 have:=@cg F Z0
 try simp only[ab]at *
 grind
def amx:=fa ((fn 103 (pr (fn 1 (pr Z0 (.int 29))) (pr oS (.int 0)))))<|fun F=>by
 rfl
def agM:=fb (Ec::Z86::(.not zl)::(.not JT)::(.not Ml)::(.not Li)::(.not IW)::(.not Hb)::(.not LI)::(.not MQ)::(.not KB)::xD::xI::Z3::Ef) bX<|wv fun F p0 p1 p2 p3 p4 p5 p6 p7 p8 p9 ao av ax aB aC=>by
 have:=@cg F Z0
 have:=fun h0 h1=>@FI F _ _ (fn 9 (pr (fn 1 (pr Z0 (.int 29))) (.int 5))) _ h0 h1 (fn _ (pr (fn 1 _) (pr (fn 1 _) (pr (fn 1 _) (pr (fn 1 _) (pr (fn 1 (pr (fn 1 (pr Z0 (.int 29))) (fn 6 (pr (fn 8 (pr Z1 _)) _)))) oS)))))) rfl
 try simp only[ab]at *
 grind
def asz:=fb C7 (.not (cmp .lss (.ar .add .i64 Z1 (.int 1)) (.int 0)))<|am fun F p0 p1 p2=>by
 have:=aw p0
 try simp only[ab,aj]at *
 obtain⟨a2,ea2,qa2⟩:=ah ((E.I F Z1)+(1))
 omega
def awi:=fb cy (.not (cmp .lss (.int 20) (fn 9 (pr (fn 1 (pr Z0 (.int 30))) (.int 5)))))<|az fun F p0=>by
 have:=aw p0
 try simp only[ab]at *
 omega
def aAr:=fb C7 (.not (cmp .lss (fn 9 (pr (fn 1 (pr Z0 (.int 29))) (.int 5))) (.ar .add .i64 Z1 (.int 1))))<|am fun F p0 p1 p2=>by
 try simp only[ab,aj]at *
 obtain⟨a2,ea2,qa2⟩:=ah ((E.I F Z1)+(1))
 omega
def as7:=fb ([(.not Ec),Z90]) BP<|au fun F p0 p1=>by
 have:=fun h1=>@EW F _ _ (fn 9 (pr (fn 1 (pr Z0 (.int 29))) (.int 5))) _ p1 h1
 try simp only[ab]at *
 grind
def aoj:=fb (Ec::Z86::zl::Z3::Z90::Ef) (fn 103 (pr (fn 1 (pr Z0 (.int 29))) (pr oS (.ar .add .i64 Z1 (.int 1)))))<|bU fun F p0 p1 p2 p3 p4 p5=>by
 have:=aw p3
 have:=@aA F Z1 (.int 1)
 have:=fun h0 hm=>@CQ F _ _ (.ar .add .i64 Z1 (.int 1)) _ p4 h0 hm (fn _ (pr (fn 1 _) (pr (fn 1 _) (pr (fn 1 _) (pr (fn 1 _) (pr (fn 1 _) _)))))) rfl
 try simp only[ab]at *
 grind
def aCJ:=fa ((fn 103 (pr (fn 1 (pr Z0 (.int 30))) (pr vp (.int 0)))))<|fun F=>by
 rfl
def ard:=fb C7 (cmp .lss (fn 7 (pr (fn 9 (pr (fn 1 (pr Z0 (.int 29))) (.int 5))) (.ar .add .i64 Z1 (.int 1)))) (fn 7 (pr (fn 9 (pr (fn 1 (pr Z0 (.int 29))) (.int 5))) Z1)))<|am fun F p0 p1 p2=>by
 have:=aw p0
 try simp only[ab,aj]at *
 obtain⟨a2,ea2,qa2⟩:=ah ((E.I F Z1)+(1))
 omega
def aGq:=fb (xE::Rw::(.not pj)::rC::BP::cy) bX<|bU fun F p0 p1 p2 p3 p4 p5=>by
 have:=@cg F Z0
 have:=fun h0 h1=>@FI F _ _ (fn 9 (pr (fn 1 (pr Z0 (.int 30))) (.int 5))) _ h0 h1 (fn _ (pr (fn 1 _) (pr (fn 1 _) (pr (fn 1 _) (pr (fn 1 _) (pr (fn 1 (pr (fn 1 (pr Z0 (.int 30))) (fn 6 (pr (fn 8 (pr bv _)) _)))) vp)))))) rfl
 try simp only[ab]at *
 grind
def ayY:=fb (Z3::zG) Z62<|am fun F p0 p1 p2=>by
 have:=aw p0
 try simp only[ab,aj]at *
 obtain⟨a2,ea2,qa2⟩:=ah ((E.I F bv)+(1))
 omega
def apk:=fb (TB::cy) bX<|au fun F p0 p1=>by
 have:=@cg F Z0
 try simp only[ab]at *
 grind
def arB:=fb (dL::ZL::cy) bX<|am fun F p0 p1 p2=>by
 have:=@cg F Z0
 try simp only[ab]at *
 grind
def ayX:=fb (dL::dX::adW::cy) bX<|aF fun F p0 p1 p2 p3=>by
 have:=@cg F Z0
 try simp only[ab]at *
 grind
def avg:=fb (dL::dX::eD::RW::cy) bX<|aT fun F p0 p1 p2 p3 p4=>by
 have:=@cg F Z0
 try simp only[ab]at *
 grind
def asZ:=fb (abF::cy) bX<|au fun F p0 p1=>by
 have:=@cg F Z0
 try simp only[ab]at *
 grind
def aGi:=fb (eP::U6::cy) bX<|am fun F p0 p1 p2=>by
 have:=@cg F Z0
 try simp only[ab]at *
 grind
def amk:=fb (dL::dX::eD::eQ::eP::fe::acK::cy) bX<|cU fun F p0 p1 p2 p3 p4 p5 p6 p7=>by
 have:=@cg F Z0
 try simp only[ab]at *
 grind
def ak4:=fb (dL::dX::eD::eQ::eP::fe::fB::Ti::cy) bX<|dK fun F p0 p1 p2 p3 p4 p5 p6 p7 p8=>by
 have:=@cg F Z0
 try simp only[ab]at *
 grind
def alm:=fb (dL::dX::eD::eQ::eP::fe::fB::fV::WU::cy) bX<|fF fun F p0 p1 p2 p3 p4 p5 p6 p7 p8 p9=>by
 have:=@cg F Z0
 try simp only[ab]at *
 grind
def aiE:=fb (dL::dX::eD::eQ::eP::fe::fB::fV::gg::abu::cy) bX<|gk fun F p0 p1 p2 p3 p4 p5 p6 p7 p8 p9 ao=>by
 have:=@cg F Z0
 try simp only[ab]at *
 grind
def apH:=fb (dL::dX::eD::eQ::eP::fe::fB::fV::gg::iU::ZZ::cy) bX<|iv fun F p0 p1 p2 p3 p4 p5 p6 p7 p8 p9 ao av=>by
 have:=@cg F Z0
 try simp only[ab]at *
 grind
def asf:=fb (dL::dX::eD::eQ::eP::fe::fB::fV::gg::iU::kV::adB::cy) bX<|gP fun F p0 p1 p2 p3 p4 p5 p6 p7 p8 p9 ao av ax=>by
 have:=@cg F Z0
 try simp only[ab]at *
 grind
def agi:=fb (dL::dX::eD::eQ::eP::fe::fB::fV::gg::iU::kV::mr::UD::cy) bX<|rU fun F p0 p1 p2 p3 p4 p5 p6 p7 p8 p9 ao av ax aB=>by
 have:=@cg F Z0
 try simp only[ab]at *
 grind
def att:=fb (dL::dX::eD::eQ::eP::fe::fB::fV::gg::WO::cy) bX<|gk fun F p0 p1 p2 p3 p4 p5 p6 p7 p8 p9 ao=>by
 have:=@cg F Z0
 try simp only[ab]at *
 grind
def awC:=fb (dL::dX::eD::eQ::eP::fe::fB::fV::gg::re::Oq::cy) bX<|iv fun F p0 p1 p2 p3 p4 p5 p6 p7 p8 p9 ao av=>by
 have:=@cg F Z0
 try simp only[ab]at *
 grind
def arc:=fb (dL::dX::eD::eQ::eP::fe::fB::fV::gg::iU::kV::mr::rf::re::sT::aci::cy) bX<|yE fun F p0 p1 p2 p3 p4 p5 p6 p7 p8 p9 ao av ax aB aC aE aL=>by
 have:=@cg F Z0
 try simp only[ab]at *
 grind
def ae2:=fb (dL::dX::eD::eQ::eP::fe::fB::fV::gg::iU::kV::mr::rf::re::sT::yg::QJ::cy) bX<|vc fun F p0 p1 p2 p3 p4 p5 p6 p7 p8 p9 ao av ax aB aC aE aL aQ=>by
 have:=@cg F Z0
 try simp only[ab]at *
 grind
def aAT:=fb (dL::dX::eD::eQ::eP::fe::fB::fV::gg::iU::kV::mr::rf::re::sT::yg::Ch::C6::cy) bX<|vk fun F p0 p1 p2 p3 p4 p5 p6 p7 p8 p9 ao av ax aB aC aE aL aQ bb=>by
 have:=@cg F Z0
 try simp only[ab]at *
 grind
def af3:=fb ((.not xE)::dL::dX::eD::eQ::eP::fe::fB::fV::gg::iU::kV::mr::rf::re::sT::yg::Ch::(.not C6)::aew::pj::(.iff yf JE)::(.not WY)::(.not aac)::(.not adS)::(.not XJ)::(.not aep)::(.not ac0)::(.not P1)::(.not Ts)::(.not Yw)::(.not QP)::Hx::BP::(.not JT)::(.not Ml)::(.not Li)::(.not IW)::(.not Hb)::(.not LI)::(.not MQ)::(.not KB)::xD::xI::cy) (.iff yf (fn 130 Z0))<|af8 fun F p0 p1 p2 p3 p4 p5 p6 p7 p8 p9 ao av ax aB aC aE aL aQ bb bm bB bF bR cf cD cW dq dY eN fp gx je ig lC lp rj rc qG rR qU qp pN pP rE oB=>by
 have:=aw oB
 have:=@cg F Z0
 have:=fun h1=>@EW F _ _ (fn 9 (pr (fn 1 (pr Z0 (.int 30))) (.int 5))) _ ig h1
 try simp only[ab]at *
 grind
def atV:=fb ((.not xE)::dL::dX::eD::eQ::eP::fe::fB::fV::gg::iU::kV::mr::rf::re::sT::yg::Ch::(.not C6)::aew::(.not pj)::Hx::BP::cy) bX<|ME fun F p0 p1 p2 p3 p4 p5 p6 p7 p8 p9 ao av ax aB aC aE aL aQ bb bm bB bF bR cf=>by
 have:=@cg F Z0
 simp_all
def aDI:=fb (dL::dX::eD::eQ::eP::fe::fB::fV::gg::iU::kV::mr::rf::re::sT::yg::Ch::(.not C6)::QP::cy) bX<|Cq fun F p0 p1 p2 p3 p4 p5 p6 p7 p8 p9 ao av ax aB aC aE aL aQ bb bm=>by
 have:=@cg F Z0
 try simp only[ab]at *
 grind
def aAu:=fb (dL::dX::eD::eQ::eP::fe::fB::fV::gg::iU::kV::mr::rf::Yw::cy) bX<|wv fun F p0 p1 p2 p3 p4 p5 p6 p7 p8 p9 ao av ax aB aC=>by
 have:=@cg F Z0
 try simp only[ab]at *
 grind
def awJ:=fb (dL::dX::eD::eQ::eP::fe::fB::fV::gg::iU::kV::mr::Ts::cy) bX<|rU fun F p0 p1 p2 p3 p4 p5 p6 p7 p8 p9 ao av ax aB=>by
 have:=@cg F Z0
 try simp only[ab]at *
 grind
def aiH:=fb (dL::dX::eD::eQ::eP::fe::fB::fV::gg::iU::kV::P1::cy) bX<|gP fun F p0 p1 p2 p3 p4 p5 p6 p7 p8 p9 ao av ax=>by
 have:=@cg F Z0
 try simp only[ab]at *
 grind
def aFx:=fb (dL::dX::eD::eQ::eP::fe::fB::fV::gg::iU::ac0::cy) bX<|iv fun F p0 p1 p2 p3 p4 p5 p6 p7 p8 p9 ao av=>by
 have:=@cg F Z0
 try simp only[ab]at *
 grind
def aCG:=fb (dL::dX::eD::eQ::eP::fe::fB::fV::gg::aep::cy) bX<|gk fun F p0 p1 p2 p3 p4 p5 p6 p7 p8 p9 ao=>by
 have:=@cg F Z0
 try simp only[ab]at *
 grind
def aqD:=fb (dL::dX::eD::eQ::XJ::cy) bX<|bU fun F p0 p1 p2 p3 p4 p5=>by
 have:=@cg F Z0
 try simp only[ab]at *
 grind
def ali:=fb (dL::dX::eD::adS::cy) bX<|aT fun F p0 p1 p2 p3 p4=>by
 have:=@cg F Z0
 try simp only[ab]at *
 grind
def agp:=fb C7 (.not (cmp .lss (fn 7 (pr (fn 9 (pr (fn 1 (pr Z0 (.int 29))) (.int 5))) (.ar .add .i64 Z1 (.int 1)))) (.int 0)))<|am fun F p0 p1 p2=>by
 try simp only[ab,aj]at *
 obtain⟨a2,ea2,qa2⟩:=ah ((E.I F Z1)+(1))
 omega
def atg:=fb zG (.not (cmp .lss (fn 9 (pr (fn 1 (pr Z0 (.int 30))) (.int 5))) (.ar .add .i64 bv (.int 1))))<|au fun F p0 p1=>by
 try simp only[ab,aj]at *
 obtain⟨a2,ea2,qa2⟩:=ah ((E.I F bv)+(1))
 omega
def amA:=fb (dL::dX::aac::cy) bX<|aF fun F p0 p1 p2 p3=>by
 have:=@cg F Z0
 try simp only[ab]at *
 grind
def aFQ:=fb (dL::WY::cy) bX<|am fun F p0 p1 p2=>by
 have:=@cg F Z0
 try simp only[ab]at *
 grind
def akp:=fb (xE::Rw::pj::Hx::rC::cy) (fn 103 (pr (fn 1 (pr Z0 (.int 30))) (pr vp (.ar .add .i64 bv (.int 1)))))<|bU fun F p0 p1 p2 p3 p4 p5=>by
 have:=aw p5
 have:=@aA F bv (.int 1)
 have:=fun h0 hm=>@CQ F _ _ (.ar .add .i64 bv (.int 1)) _ p3 h0 hm (fn _ (pr (fn 1 _) (pr (fn 1 _) (pr (fn 1 _) (pr (fn 1 _) (pr (fn 1 _) _)))))) rfl
 try simp only[ab]at *
 grind
def aqw:=fb (Z3::zG) (cmp .lss (fn 7 (pr (fn 9 (pr (fn 1 (pr Z0 (.int 30))) (.int 5))) (.ar .add .i64 bv (.int 1)))) (fn 7 (pr (fn 9 (pr (fn 1 (pr Z0 (.int 30))) (.int 5))) bv)))<|am fun F p0 p1 p2=>by
 have:=aw p0
 try simp only[ab,aj]at *
 obtain⟨a2,ea2,qa2⟩:=ah ((E.I F bv)+(1))
 omega
def azr:=fb zG (.not (cmp .lss (fn 7 (pr (fn 9 (pr (fn 1 (pr Z0 (.int 30))) (.int 5))) (.ar .add .i64 bv (.int 1)))) (.int 0)))<|au fun F p0 p1=>by
 try simp only[ab,aj]at *
 obtain⟨a2,ea2,qa2⟩:=ah ((E.I F bv)+(1))
 omega
def eN:List Fa:=[auL,BT,afU,awZ,aGJ,af2,asQ,aDA,ajp,axk,aCu,auz,alz,aiW,amx,agM,asz,awi,aAr,as7,aoj,aCJ,ard,aGq,ayY,apk,arB,ayX,avg,asZ,aGi,amk,ak4,alm,aiE,apH,asf,agi,att,awC,arc,ae2,aAT,af3,atV,aDI,aAu,awJ,aiH,aFx,aCG,aqD,ali,agp,atg,amA,aFQ,akp,aqw,azr]
theorem arH:aU Try.prog (bn (akw)):=sc eN (aC2) aa9 ([]) (by kernel_rfl) (by kernel_rfl)
def Oj:Nl:=nc arH aa9
end
end Go.Proofs.Ytnnbmcfabojjjaa.payColours
