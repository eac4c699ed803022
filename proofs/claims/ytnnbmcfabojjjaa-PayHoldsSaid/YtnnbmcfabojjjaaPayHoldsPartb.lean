/-
  PayHolds: contracts of functions, part 2.
-/
import Derived.Test.YtnnbmcfabojjjaaRows
import Derived.Test.YtnnbmcfabojjjaaNat
import Derived.WalkKit
import Derived.ProofKit
import Derived.OpenShut
import Derived.ChangeOld
import Derived.Below
import Derived.KernelRfl
import Derived.Lib.SmallJoins
import Derived.Laws.IdiomArrays
import Derived.Test.YtnnbmcfabojjjaaPayHoldsParta
namespace Go.Proofs.Ytnnbmcfabojjjaa.payHolds
open Go.ChangeShapes Go.WideShapes Go.ChangeAt Go.RowKit
open Go.SX
open Go.SX.E (fn pr cmp var)
set_option linter.unusedVariables false
set_option linter.unusedSimpArgs false
set_option maxRecDepth 100000
noncomputable section
abbrev J0:E:=var 0
abbrev J1:E:=var 4
abbrev J2:E:=cmp .lss J1 (fn 9 (pr J0 (.int 2)))
abbrev J3:E:=cmp .lss (fn 1 (pr J0 (fn 6 (pr (fn 8 (pr J1 (.int 2))) (.int 0))))) (.int 0)
abbrev J4:E:=cmp .lss J1 (.int 0)
abbrev J5:E:=.not J4
abbrev J6:=[J5]
abbrev J7:E:=pr J0 (fn 9 (pr J0 (.int 2)))
abbrev J8:E:=fn 101 J7
abbrev J9:E:=.not J8
abbrev wu:E:=.iff J5 J9
abbrev uv:E:=.not J3
abbrev J12:E:=cmp .lss (fn 1 (pr J0 (fn 6 (pr (fn 8 (pr J1 (.int 2))) (.int 1))))) (.int 0)
abbrev AD:E:=.not J12
abbrev B9:E:=cmp .lss (.int 1) (fn 1 (pr J0 (fn 6 (pr (fn 8 (pr J1 (.int 2))) (.int 1)))))
abbrev GM:E:=cmp .eql (fn 1 (pr J0 (fn 6 (pr (fn 8 (pr J1 (.int 2))) (.int 0))))) (.int 0)
abbrev J16:E:=cmp .eql (fn 1 (pr J0 (fn 6 (pr (fn 8 (pr J1 (.int 2))) (.int 1))))) (.int 0)
abbrev J17:E:=cmp .lss (.int 1000) (fn 9 (pr J0 (.int 2)))
abbrev J18:E:=.not J17
abbrev J19:=[J18]
abbrev J20:=J5::J19
abbrev SM:=J2::J20
abbrev J22:E:=cmp .lss (.ar .add .i64 J1 (.int 1)) (.int 0)
abbrev Ib:E:=.not J22
abbrev VW:E:=cmp .lss (.int 500) (fn 1 (pr J0 (fn 6 (pr (fn 8 (pr J1 (.int 2))) (.int 0)))))
abbrev J25:E:=fn 101 (pr J0 J1)
abbrev jH:E:=.bool false
abbrev J27:=J25::J20
abbrev J28:List E:=(.not VW)::J27
abbrev J29:E:=pr J0 (.ar .add .i64 J1 (.int 1))
abbrev Zx:E:=fn 101 J29
abbrev TW:E:=cmp .lss J0 (.int 0)
abbrev bR:E:=var 1
abbrev cz:E:=var 2
abbrev co:E:=var 3
abbrev bS:E:=var 5
abbrev J36:E:=pr co (pr J1 bS)
abbrev J37:E:=pr cz J36
abbrev J38:E:=pr bR J37
abbrev J39:E:=pr J0 J38
abbrev OV:E:=fn 102 J39
abbrev lR:E:=.iff jH OV
abbrev jG:E:=.not TW
abbrev J43:E:=cmp .lss (.int 1) J0
abbrev kM:E:=.not J43
abbrev QJ:E:=cmp .lss bR (.int 1)
abbrev lP:E:=.not QJ
abbrev J47:E:=cmp .lss cz (.int 0)
abbrev nH:E:=.not J47
abbrev So:E:=cmp .lss co (.int (-1))
abbrev sa:E:=.not So
abbrev Sv:E:=cmp .lss (.int 1) co
abbrev sS:E:=.not Sv
abbrev OZ:E:=cmp .lss (.int 4) (fn 9 (pr J1 (.int 2)))
abbrev xv:E:=.not OZ
abbrev E7:E:=cmp .lss co (.int 0)
abbrev gN:E:=.not E7
abbrev Lu:E:=cmp .lss (.int 0) (fn 9 (pr J1 (.int 2)))
abbrev eU:E:=var 6
abbrev M6:E:=cmp .lss eU (.int 0)
abbrev mT:E:=.not M6
abbrev J61:E:=pr J1 (fn 9 (pr J1 (.int 2)))
abbrev J62:E:=fn 101 J61
abbrev J63:E:=.not J62
abbrev J64:E:=.iff mT J63
abbrev J65:E:=cmp .lss (.int 500) bR
abbrev J66:E:=.not J65
abbrev RJ:E:=cmp .lss (.int 399) cz
abbrev J68:E:=.not RJ
abbrev J69:=[J68]
abbrev P1:=J66::J69
abbrev NH:=J64::P1
abbrev Nw:E:=.iff M6 OV
abbrev nG:E:=cmp .lss J1 (fn 9 (pr J0 (.int 5)))
abbrev J74:E:=pr (fn 1 (pr J0 (fn 6 (pr (fn 8 (pr J1 (.int 5))) (.int 4))))) jH
abbrev J75:E:=pr (fn 1 (pr J0 (fn 6 (pr (fn 8 (pr J1 (.int 5))) (.int 3))))) J74
abbrev J76:E:=pr (fn 1 (pr J0 (fn 6 (pr (fn 8 (pr J1 (.int 5))) (.int 2))))) J75
abbrev J77:E:=pr (fn 1 (pr J0 (fn 6 (pr (fn 8 (pr J1 (.int 5))) (.int 1))))) J76
abbrev J78:E:=pr (fn 1 (pr J0 (fn 6 (pr (fn 8 (pr J1 (.int 5))) (.int 0))))) J77
abbrev J79:E:=fn 102 J78
abbrev Yr:E:=.iff bS J79
abbrev J81:E:=pr jH (fn 9 (pr J0 (.int 5)))
abbrev J82:E:=pr J0 J81
abbrev J83:E:=fn 103 J82
abbrev J84:E:=.not J83
abbrev J85:E:=cmp .lss (.int 1000) (fn 9 (pr J0 (.int 5)))
abbrev J86:E:=.not J85
abbrev J87:=[J86]
abbrev MJ:=J5::J87
abbrev RP:=nG::MJ
abbrev J90:E:=pr J0 (pr jH J1)
abbrev J91:E:=fn 103 J90
abbrev oV:E:=.bool true
abbrev J93:E:=pr (fn 1 (pr J0 (fn 6 (pr (fn 8 (pr J1 (.int 5))) (.int 4))))) oV
abbrev J94:E:=pr (fn 1 (pr J0 (fn 6 (pr (fn 8 (pr J1 (.int 5))) (.int 3))))) J93
abbrev J95:E:=pr (fn 1 (pr J0 (fn 6 (pr (fn 8 (pr J1 (.int 5))) (.int 2))))) J94
abbrev J96:E:=pr (fn 1 (pr J0 (fn 6 (pr (fn 8 (pr J1 (.int 5))) (.int 1))))) J95
abbrev J97:E:=pr (fn 1 (pr J0 (fn 6 (pr (fn 8 (pr J1 (.int 5))) (.int 0))))) J96
abbrev J98:E:=fn 102 J97
abbrev J99:E:=.iff bS J98
abbrev ahk:E:=pr oV (fn 9 (pr J0 (.int 5)))
abbrev aIa:E:=pr J0 ahk
abbrev aqO:E:=fn 103 aIa
abbrev acC:E:=.not aqO
abbrev aEk:E:=pr J0 (pr oV J1)
abbrev Uc:E:=fn 103 aEk
abbrev ta:E:=cmp .lss J1 (fn 0 J0)
abbrev aai:E:=cmp .eql bR (fn 1 (pr J0 J1))
abbrev afo:E:=fn 114 (pr J0 bR)
abbrev an6:E:=cmp .lss (.int 1000) (fn 0 J0)
abbrev aiO:E:=.not an6
abbrev as1:=[aiO]
abbrev afd:=J5::as1
abbrev Ql:=ta::afd
abbrev QP:E:=cmp .eql (fn 131 (pr J0 (pr bR J1))) (.int 0)
abbrev adi:E:=cmp .lss (.int 99) co
abbrev eW:E:=var 7
abbrev bq:E:=var 8
abbrev Gm:E:=fn 137 (pr J0 (pr bR (pr cz (pr co (pr J1 (pr bS (pr eU (pr eW bq))))))))
abbrev gy:E:=.iff jH Gm
abbrev WJ:E:=cmp .lss (.int 99) J1
abbrev Sg:E:=cmp .lss bS (.int 0)
abbrev lK:E:=.not Sg
abbrev T9:E:=cmp .lss (.int 99) bS
abbrev ahe:E:=cmp .lss (.int 99) eU
abbrev acD:E:=cmp .lss eW (.int 0)
abbrev qW:E:=.not acD
abbrev ZO:E:=cmp .lss (.int 99) eW
abbrev ZJ:E:=cmp .lss bq (.int 0)
abbrev wA:E:=.not ZJ
abbrev ad4:E:=cmp .lss (.int 99) bq
abbrev Ln:E:=cmp .eql bR (.int (-1))
abbrev Ca:E:=.not Ln
abbrev FJ:E:=cmp .eql co (.int 0)
abbrev H0:E:=cmp .eql J1 (.int 0)
abbrev acr:E:=cmp .lss J0 (.int 1)
abbrev rB:E:=.not acr
abbrev FL:E:=cmp .lss bR (.int (-1))
abbrev Nq:E:=cmp .lss bR (.int 400)
abbrev AU:E:=cmp .eql cz (.int 0)
abbrev aab:E:=.not adi
abbrev aFO:E:=.not T9
abbrev aBZ:E:=.not ahe
abbrev aEJ:E:=.not ZO
abbrev au2:E:=.not ad4
abbrev YR:E:=cmp .lss (.int 500) J0
abbrev alE:E:=.not YR
abbrev axp:=[alE]
abbrev aqK:=au2::axp
abbrev aAu:=aEJ::aqK
abbrev aCG:=aBZ::aAu
abbrev acB:=aFO::aCG
abbrev VZ:=aab::acB
abbrev atV:E:=cmp .eql cz (.int 1)
abbrev Ys:E:=.iff atV Gm
abbrev aIT:List E:=(.not WJ)::acB
abbrev agY:=aab::aIT
abbrev Il:E:=pr (.int 0) (.int 0)
abbrev iE:E:=fn 117 J0
abbrev jq:=[iE]
abbrev oC:E:=cmp .eql bq (.int 0)
abbrev aB0:E:=cmp .lss (.ar .add .i64 bq (.int 1)) (.int 0)
abbrev ab4:E:=.not aB0
abbrev lJ:E:=cmp .eql bq (.int 1)
abbrev dl:E:=var 16
abbrev C7:E:=cmp .eql dl (.int 0)
abbrev nC:E:=pr J0 (pr bq dl)
abbrev BU:E:=cmp .eql dl (.int 1)
abbrev By:E:=cmp .eql dl (.int 2)
abbrev Aq:E:=cmp .lss dl (.int 4)
abbrev aAd:E:=cmp .lss dl (.int 0)
abbrev abI:E:=.not aAd
abbrev aE6:=[abI,oC]
abbrev RS:=Aq::aE6
abbrev aFS:E:=cmp .lss (.int 2) (.ar .add .i64 bq (.int 1))
abbrev Q6:E:=.not aFS
abbrev rn:=[Aq,abI]
abbrev eS:E:=var 24
abbrev jK:E:=var 28
abbrev sA:E:=cmp .lss eS (fn 0 jK)
abbrev tz:E:=var 25
abbrev yb:E:=fn 104 (pr tz (pr J0 (pr bq (pr dl eS))))
abbrev xf:E:=fn 109 (pr jK nC)
abbrev anX:E:=cmp .lss eS (.int 0)
abbrev Jk:E:=.not anX
abbrev Ps:=Jk::RS
abbrev lM:E:=.iff jH (fn 108 J0)
abbrev arB:E:=cmp .lss (.int 40) (fn 0 jK)
abbrev IS:E:=.not arB
abbrev TJ:=[Jk]
abbrev aun:=IS::TJ
abbrev Qh:=sA::aun
abbrev Xp:=Jk::rn
abbrev ajY:E:=pr bq (pr dl (.int 0))
abbrev aiK:E:=pr J0 ajY
abbrev axh:E:=pr (var 17) aiK
abbrev ah5:E:=fn 104 axh
abbrev aj2:E:=cmp .lss (.int 4) dl
abbrev aHp:E:=.not aj2
abbrev aD4:=[aHp]
abbrev acE:=ah5::aD4
abbrev aCY:E:=pr (.ar .add .i64 bq (.int 1)) Il
abbrev arL:E:=pr J0 aCY
abbrev aFR:E:=pr (var 17) arL
abbrev Un:E:=fn 104 aFR
abbrev Wz:=sA::TJ
abbrev Zy:E:=cmp .lss (fn 7 (pr (.int 2) (.ar .add .i64 bq (.int 1)))) (fn 7 (pr (.int 2) bq))
abbrev dE:E:=var 32
abbrev tN:E:=cmp .lss dE (fn 9 (pr (fn 1 (pr J0 (.int 29))) (.int 5)))
abbrev HG:E:=cmp .lss (fn 1 (pr (fn 1 (pr J0 (.int 29))) (fn 6 (pr (fn 8 (pr dE (.int 5))) (.int 3))))) (.int 0)
abbrev wh:E:=var 33
abbrev ET:E:=var 34
abbrev Zi:E:=pr J0 dE
abbrev aHW:E:=pr ET Zi
abbrev aae:E:=fn 106 aHW
abbrev aix:E:=pr wh Zi
abbrev aef:E:=fn 105 aix
abbrev aF6:E:=cmp .lss dE (.int 0)
abbrev aF7:E:=.not aF6
abbrev ad0:=[aF7]
abbrev asu:=aef::ad0
abbrev RL:=aae::asu
abbrev alS:=tN::ad0
abbrev Ea:=iE::alS
abbrev Rv:E:=.not (fn 33 (pr tz (fn 1 (pr jK eS))))
abbrev ar8:E:=pr dl (.ar .add .i64 eS (.int 1))
abbrev anf:E:=pr bq ar8
abbrev aJe:E:=pr J0 anf
abbrev aij:E:=pr (fn 34 (pr tz (pr (fn 1 (pr jK eS)) bq))) aJe
abbrev Qa:E:=fn 104 aij
abbrev axG:E:=cmp .lss (fn 7 (pr (.int 2) (.ar .add .i64 bq (.int 1)))) (.int 0)
abbrev adj:E:=.not axG
abbrev ahr:E:=cmp .lss (fn 9 (pr (fn 1 (pr J0 (.int 29))) (.int 5))) dE
abbrev axY:E:=.not ahr
abbrev SI:=[axY]
abbrev Cx:E:=pr J0 (fn 9 (pr (fn 1 (pr J0 (.int 29))) (.int 5)))
abbrev aBl:E:=.not (fn 33 (pr wh (fn 1 (pr (fn 1 (pr J0 (.int 29))) (fn 6 (pr (fn 8 (pr dE (.int 5))) (.int 1)))))))
abbrev Pa:=iE::RL
abbrev avb:=aBl::Pa
abbrev aFj:=HG::avb
abbrev VC:=tN::aFj
abbrev Eb:E:=pr J0 (.ar .add .i64 dE (.int 1))
abbrev ayi:List E:=(.not HG)::Pa
abbrev YV:=tN::ayi
abbrev aX:E:=var 40
abbrev iR:E:=cmp .lss aX (fn 9 (pr (fn 1 (pr J0 (.int 0))) (.int 12)))
abbrev pB:E:=cmp .lss (.int 0) aX
abbrev A5:=[iR,pB]
abbrev MG:=iE::A5
abbrev GS:E:=fn 107 (pr J0 aX)
abbrev mq:E:=var 41
abbrev GX:E:=fn 105 (pr mq Cx)
abbrev ui:E:=.not pB
abbrev ajy:E:=cmp .lss aX (.int 0)
abbrev aaW:E:=.not ajy
abbrev Rb:=[aaW]
abbrev L7:=ui::Rb
abbrev aCh:E:=cmp .lss (.ar .add .i64 aX (.int 1)) (.int 0)
abbrev ad3:E:=.not aCh
abbrev og:E:=var 43
abbrev pI:E:=.iff og (fn 137 (pr (fn 1 (pr (fn 1 (pr J0 (.int 0))) (fn 6 (pr (fn 8 (pr aX (.int 12))) (.int 0))))) (pr (fn 1 (pr (fn 1 (pr J0 (.int 0))) (fn 6 (pr (fn 8 (pr aX (.int 12))) (.int 1))))) (pr (fn 1 (pr (fn 1 (pr J0 (.int 0))) (fn 6 (pr (fn 8 (pr aX (.int 12))) (.int 2))))) (pr (fn 1 (pr (fn 1 (pr J0 (.int 0))) (fn 6 (pr (fn 8 (pr aX (.int 12))) (.int 3))))) (pr (fn 1 (pr (fn 1 (pr J0 (.int 0))) (fn 6 (pr (fn 8 (pr aX (.int 12))) (.int 4))))) (pr (fn 1 (pr (fn 1 (pr J0 (.int 0))) (fn 6 (pr (fn 8 (pr aX (.int 12))) (.int 5))))) (pr (fn 1 (pr (fn 1 (pr J0 (.int 0))) (fn 6 (pr (fn 8 (pr aX (.int 12))) (.int 6))))) (pr (fn 1 (pr (fn 1 (pr J0 (.int 0))) (fn 6 (pr (fn 8 (pr aX (.int 12))) (.int 7))))) (fn 1 (pr (fn 1 (pr J0 (.int 0))) (fn 6 (pr (fn 8 (pr aX (.int 12))) (.int 8))))))))))))))
abbrev wW:E:=var 42
abbrev Er:E:=cmp .eql (fn 32 (pr wW (pr (fn 1 (pr (fn 1 (pr J0 (.int 0))) (fn 6 (pr (fn 8 (pr aX (.int 12))) (.int 0))))) (.int 0)))) (fn 1 (pr (fn 1 (pr J0 (.int 0))) (fn 6 (pr (fn 8 (pr aX (.int 12))) (.int 1)))))
abbrev S4:E:=fn 106 (pr wW Cx)
abbrev xM:=GS::S4::GX::Rb
abbrev tA:E:=cmp .eql (fn 32 (pr mq (pr (fn 1 (pr (fn 1 (pr J0 (.int 0))) (fn 6 (pr (fn 8 (pr aX (.int 12))) (.int 0))))) (.int 0)))) (fn 1 (pr (fn 1 (pr J0 (.int 0))) (fn 6 (pr (fn 8 (pr aX (.int 12))) (.int 2)))))
abbrev adp:E:=.not (fn 33 (pr mq (fn 1 (pr (fn 1 (pr J0 (.int 0))) (fn 6 (pr (fn 8 (pr aX (.int 12))) (.int 0)))))))
abbrev DR:E:=cmp .lss (fn 1 (pr (fn 1 (pr J0 (.int 0))) (fn 6 (pr (fn 8 (pr (.ar .sub .i64 aX (.int 1)) (.int 12))) (.int 0))))) (fn 1 (pr (fn 1 (pr J0 (.int 0))) (fn 6 (pr (fn 8 (pr aX (.int 12))) (.int 0)))))
abbrev qG:=GS::S4::GX::aaW::jq
abbrev Po:=iR::L7
abbrev an9:E:=cmp .lss (fn 9 (pr (fn 1 (pr J0 (.int 0))) (.int 12))) (.ar .add .i64 aX (.int 1))
abbrev UW:E:=.not an9
abbrev Qm:E:=.not (fn 33 (pr wW (fn 1 (pr (fn 1 (pr J0 (.int 0))) (fn 6 (pr (fn 8 (pr aX (.int 12))) (.int 0)))))))
abbrev EN:E:=fn 107 (pr J0 (.ar .add .i64 aX (.int 1)))
abbrev OF:E:=cmp .lss (fn 7 (pr (fn 9 (pr (fn 1 (pr J0 (.int 0))) (.int 12))) (.ar .add .i64 aX (.int 1)))) (fn 7 (pr (fn 9 (pr (fn 1 (pr J0 (.int 0))) (.int 12))) aX))
abbrev aA5:E:=cmp .lss (fn 7 (pr (fn 9 (pr (fn 1 (pr J0 (.int 0))) (.int 12))) (.ar .add .i64 aX (.int 1)))) (.int 0)
abbrev ahc:E:=.not aA5
theorem ajb:km Try.prog (fun tb=>nU sx (run Try.prog (tb.plus [] [] AQ.l) 3000 (.call 9 []) .nil (pp 0 []) SX.one))=true:=by kernel_rfl
def XY:Nl:=nc (ayX good (facts:=[]) all_nil (anns:=[]) (B8 [] rfl) (nats:=AQ.l) AQ.h ajb) AQ

def G0:=fa ((fn 101 (pr J0 (.int 0))))<|fun F=>by
 rfl
def G1:=fb (J2::J3::J6) wu<|am fun F p0 p1 p2=>by
 have:=fun h0 h1=>@mj F _ _ (fn 9 (pr J0 (.int 2))) h0 h1 (fn 1 _) (fn 1 (pr J0 (fn 6 (pr (fn 8 (pr J1 _)) _)))) rfl rfl
 try simp only[aa]at *
 grind
def G2:=fb (J2::uv::J12::J6) wu<|aH fun F p0 p1 p2 p3=>by
 have:=fun h0 h1=>@mj F _ _ (fn 9 (pr J0 (.int 2))) h0 h1 _ (fn 1 (pr J0 (fn 6 (pr (fn 8 (pr J1 _)) _)))) rfl rfl
 try simp only[aa]at *
 grind
def G3:=fb (J2::uv::AD::(.not B9)::(.not GM)::(.not J16)::J6) wu<|de fun F p0 p1 p2 p3 p4 p5 p6=>by
 have:=fun h0 h1=>@mj F _ _ (fn 9 (pr J0 (.int 2))) h0 h1 (fn 1 _) (fn 1 (pr J0 (fn 6 (pr (fn 8 (pr J1 _)) _)))) rfl rfl
 try simp only[aa]at *
 grind
def G4:=fb SM Ib<|am fun F p0 p1 p2=>by
 try simp only[aa,ae]at *
 obtain⟨a2,ea2,qa2⟩:=ab ((E.I F J1)+(1))
 omega
def G5:=fb (J2::uv::AD::B9::J6) wu<|aR fun F p0 p1 p2 p3 p4=>by
 have:=fun h0 h1=>@mj F _ _ (fn 9 (pr J0 (.int 2))) h0 h1 _ (fn 1 (pr J0 (fn 6 (pr (fn 8 (pr J1 _)) _)))) rfl rfl
 try simp only[aa]at *
 grind
def G6:=fb (J2::uv::VW::J6) wu<|aH fun F p0 p1 p2 p3=>by
 have:=fun h0 h1=>@mj F _ _ (fn 9 (pr J0 (.int 2))) h0 h1 (fn 1 _) (fn 1 (pr J0 (fn 6 (pr (fn 8 (pr J1 _)) _)))) rfl rfl
 try simp only[aa]at *
 grind
def G7:=fb ([(.not J2),J25]) (.iff jH J9)<|ax fun F p0 p1=>by
 have:=fun h1=>@agk F _ _ (fn 9 (pr J0 (.int 2))) p1 h1
 try simp only[aa]at *
 grind
def G8:=fb (J2::J6) (.not (cmp .lss (fn 9 (pr J0 (.int 2))) (.ar .add .i64 J1 (.int 1))))<|ax fun F p0 p1=>by
 try simp only[aa,ae]at *
 obtain⟨a2,ea2,qa2⟩:=ab ((E.I F J1)+(1))
 omega
def G9:=fb (J2::uv::AD::(.not B9)::(.not GM)::J16::J28) Zx<|iD fun F p0 p1 p2 p3 p4 p5 p6 p7 p8 p9=>by
 have:=@aM F J1 (.int 1)
 have:=fun h0 hm=>@F8 F _ (.ar .add .i64 J1 (.int 1)) _ p7 h0 hm (fn 1 _) (fn 1 _) rfl rfl
 try simp only[aa]at *
 grind
def G10:=fb (J2::uv::AD::(.not B9)::GM::J28) Zx<|eB fun F p0 p1 p2 p3 p4 p5 p6 p7 p8=>by
 have:=@aM F J1 (.int 1)
 have:=fun h0 hm=>@F8 F _ (.ar .add .i64 J1 (.int 1)) _ p6 h0 hm (fn 1 _) (fn 1 _) rfl rfl
 try simp only[aa]at *
 grind
def G11:=fb SM (cmp .lss (fn 7 (pr (fn 9 (pr J0 (.int 2))) (.ar .add .i64 J1 (.int 1)))) (fn 7 (pr (fn 9 (pr J0 (.int 2))) J1)))<|am fun F p0 p1 p2=>by
 try simp only[aa,ae]at *
 obtain⟨a2,ea2,qa2⟩:=ab ((E.I F J1)+(1))
 omega
def G12:=fb (J2::J6) (.not (cmp .lss (fn 7 (pr (fn 9 (pr J0 (.int 2))) (.ar .add .i64 J1 (.int 1)))) (.int 0)))<|ax fun F p0 p1=>by
 try simp only[aa,ae]at *
 obtain⟨a2,ea2,qa2⟩:=ab ((E.I F J1)+(1))
 omega
def ao:List Fa:=[G0,G1,G2,G3,G4,G5,G6,G7,G8,G9,G10,G11,G12]
theorem aBt:aW Try.prog (bu (aFD)):=sc ao (ahC) XY ([]) (by kernel_rfl) (by kernel_rfl)
def abo:Nl:=nc aBt XY
def OP:=fb ([TW]) lR<|aB fun F p0=>by
 have:=(@dL F co bR J0 bS cz J1)
 try simp only[aa]at *
 grind
def G14:=fb ([jG,kM,QJ]) lR<|am fun F p0 p1 p2=>by
 have:=(@dL F co bR J0 bS cz J1)
 try simp only[aa]at *
 grind
def G15:=fb ([jG,kM,lP,J47]) lR<|aH fun F p0 p1 p2 p3=>by
 have:=(@dL F co bR J0 bS cz J1)
 try simp only[aa]at *
 grind
def G16:=fb ([jG,kM,lP,nH,So]) lR<|aR fun F p0 p1 p2 p3 p4=>by
 have:=(@dL F co bR J0 bS cz J1)
 try simp only[aa]at *
 grind
def G17:=fb (jG::kM::lP::nH::sa::sS::xv::gN::(.not Lu)::bS::NH) Nw<|iN fun F p0 p1 p2 p3 p4 p5 p6 p7 p8 p9 aj ak ao=>by
 have:=oq F (pr J1 (.int 2))
 have:=(@dL F co bR J0 bS cz J1)
 try simp only[aa]at *
 grind
def G18:=fb (jG::kM::lP::nH::sa::sS::xv::gN::(.not Lu)::NH) Nw<|lf fun F p0 p1 p2 p3 p4 p5 p6 p7 p8 p9 aj ak=>by
 have:=oq F (pr J1 (.int 2))
 have:=(@dL F co bR J0 bS cz J1)
 try simp only[aa]at *
 grind
def G19:=fb (jG::kM::lP::nH::sa::sS::xv::gN::Lu::P1) lR<|iu fun F p0 p1 p2 p3 p4 p5 p6 p7 p8 p9 aj=>by
 have:=(@dL F co bR J0 bS cz J1)
 try simp only[aa]at *
 grind
def G20:=fb ([jG,kM,lP,nH,sa,sS,xv,E7,bS]) lR<|eB fun F p0 p1 p2 p3 p4 p5 p6 p7 p8=>by
 have:=(@dL F co bR J0 bS cz J1)
 try simp only[aa]at *
 grind
def G21:=fb (jG::kM::lP::nH::sa::sS::xv::E7::(.not bS)::NH) Nw<|lf fun F p0 p1 p2 p3 p4 p5 p6 p7 p8 p9 aj ak=>by
 have:=(@dL F co bR J0 bS cz J1)
 try simp only[aa]at *
 grind
def G22:=fb ([jG,kM,lP,nH,sa,sS,OZ]) lR<|de fun F p0 p1 p2 p3 p4 p5 p6=>by
 have:=(@dL F co bR J0 bS cz J1)
 try simp only[aa]at *
 grind
def G23:=fb ([jG,kM,lP,nH,sa,Sv]) lR<|cr fun F p0 p1 p2 p3 p4 p5=>by
 have:=(@dL F co bR J0 bS cz J1)
 try simp only[aa]at *
 grind
def G24:=fb ([jG,kM,lP,nH,RJ]) lR<|aR fun F p0 p1 p2 p3 p4=>by
 have:=(@dL F co bR J0 bS cz J1)
 try simp only[aa]at *
 grind
def G25:=fb ([jG,kM,lP,J65]) lR<|aH fun F p0 p1 p2 p3=>by
 have:=(@dL F co bR J0 bS cz J1)
 try simp only[aa]at *
 grind
def G26:=fb ([jG,J43]) lR<|ax fun F p0 p1=>by
 have:=(@dL F co bR J0 bS cz J1)
 try simp only[aa]at *
 grind
def aq:List Fa:=[OP,G14,G15,G16,G17,G18,G19,G20,G21,G22,G23,G24,G25,G26]
theorem anW:aW Try.prog (bu (aEH)):=sc aq ([]) abo ([]) (by kernel_rfl) (by kernel_rfl)
def Zz:Nl:=nc anW abo
def G27:=fa ((fn 103 (pr J0 (pr jH (.int 0)))))<|fun F=>by
 rfl
def G28:=fb (nG::Yr::(.not bS)::J6) (.iff J5 J84)<|aH fun F p0 p1 p2 p3=>by
 have:=fun h0 h1=>@Fj F _ _ (fn 9 (pr J0 (.int 5))) _ h0 h1 (fn _ (pr (fn 1 _) (pr (fn 1 _) (pr (fn 1 _) (pr (fn 1 _) (pr (fn 1 (pr J0 (fn 6 (pr (fn 8 (pr J1 _)) _)))) jH)))))) rfl
 try simp only[aa]at *
 grind
def Xh:=fb RP Ib<|am fun F p0 p1 p2=>by
 try simp only[aa,ae]at *
 obtain⟨a2,ea2,qa2⟩:=ab ((E.I F J1)+(1))
 omega
def G30:=fb ([(.not nG),J91]) (.iff jH J84)<|ax fun F p0 p1=>by
 have:=fun h1=>@Ga F _ _ (fn 9 (pr J0 (.int 5))) _ p1 h1
 try simp only[aa]at *
 grind
def Pr:=fb (nG::J6) (.not (cmp .lss (fn 9 (pr J0 (.int 5))) (.ar .add .i64 J1 (.int 1))))<|ax fun F p0 p1=>by
 try simp only[aa,ae]at *
 obtain⟨a2,ea2,qa2⟩:=ab ((E.I F J1)+(1))
 omega
def G32:=fb (nG::Yr::bS::J91::MJ) (fn 103 (pr J0 (pr jH (.ar .add .i64 J1 (.int 1)))))<|cr fun F p0 p1 p2 p3 p4 p5=>by
 have:=@aM F J1 (.int 1)
 have:=fun h0 hm=>@CO F _ _ (.ar .add .i64 J1 (.int 1)) _ p3 h0 hm (fn _ (pr (fn 1 _) (pr (fn 1 _) (pr (fn 1 _) (pr (fn 1 _) (pr (fn 1 _) _)))))) rfl
 try simp only[aa]at *
 grind
def G33:=fb RP (cmp .lss (fn 7 (pr (fn 9 (pr J0 (.int 5))) (.ar .add .i64 J1 (.int 1)))) (fn 7 (pr (fn 9 (pr J0 (.int 5))) J1)))<|am fun F p0 p1 p2=>by
 try simp only[aa,ae]at *
 obtain⟨a2,ea2,qa2⟩:=ab ((E.I F J1)+(1))
 omega
def R5:=fb (nG::J6) (.not (cmp .lss (fn 7 (pr (fn 9 (pr J0 (.int 5))) (.ar .add .i64 J1 (.int 1)))) (.int 0)))<|ax fun F p0 p1=>by
 try simp only[aa,ae]at *
 obtain⟨a2,ea2,qa2⟩:=ab ((E.I F J1)+(1))
 omega
def av:List Fa:=[G27,G28,Xh,G30,Pr,G32,G33,R5]
theorem asz:aW Try.prog (bu (afY 77 false)):=sc av (OG 77 false) Zz ([]) (by kernel_rfl) (by kernel_rfl)
def UY:Nl:=nc asz Zz
def G35:=fa ((fn 103 (pr J0 (pr oV (.int 0)))))<|fun F=>by
 rfl
def G36:=fb (nG::J99::(.not bS)::J6) (.iff J5 acC)<|aH fun F p0 p1 p2 p3=>by
 have:=fun h0 h1=>@Fj F _ _ (fn 9 (pr J0 (.int 5))) _ h0 h1 (fn _ (pr (fn 1 _) (pr (fn 1 _) (pr (fn 1 _) (pr (fn 1 _) (pr (fn 1 (pr J0 (fn 6 (pr (fn 8 (pr J1 _)) _)))) oV)))))) rfl
 try simp only[aa]at *
 grind
def G37:=fb ([(.not nG),Uc]) (.iff jH acC)<|ax fun F p0 p1=>by
 have:=fun h1=>@Ga F _ _ (fn 9 (pr J0 (.int 5))) _ p1 h1
 try simp only[aa]at *
 grind
def G38:=fb (nG::J99::bS::Uc::MJ) (fn 103 (pr J0 (pr oV (.ar .add .i64 J1 (.int 1)))))<|cr fun F p0 p1 p2 p3 p4 p5=>by
 have:=@aM F J1 (.int 1)
 have:=fun h0 hm=>@CO F _ _ (.ar .add .i64 J1 (.int 1)) _ p3 h0 hm (fn _ (pr (fn 1 _) (pr (fn 1 _) (pr (fn 1 _) (pr (fn 1 _) (pr (fn 1 _) _)))))) rfl
 try simp only[aa]at *
 grind
def az:List Fa:=[G35,G36,Xh,G37,Pr,G38,G33,R5]
theorem akv:aW Try.prog (bu (afY 79 true)):=sc az (OG 79 true) UY ([]) (by kernel_rfl) (by kernel_rfl)
def Yk:Nl:=nc akv UY
def QU:=fa ((cmp .eql (fn 131 (pr J0 (pr bR (.int 0)))) (.int 0)))<|fun F=>by
 rfl
def G40:=fb (ta::aai::J6) (.iff J5 afo)<|am fun F p0 p1 p2=>by
 have:=@azX F J0 bR J1
 try simp only[aa]at *
 grind
def G41:=fb Ql Ib<|am fun F p0 p1 p2=>by
 try simp only[aa,ae]at *
 obtain⟨a3,ea3,qa3⟩:=ab ((E.I F J1)+(1))
 omega
def G42:=fb ([(.not ta),QP]) (.iff jH afo)<|ax fun F p0 p1=>by
 have:=@an5 F J0 bR J1
 try simp only[aa]at *
 grind
def G43:=fb (ta::J6) (.not (cmp .lss (fn 0 J0) (.ar .add .i64 J1 (.int 1))))<|ax fun F p0 p1=>by
 try simp only[aa,ae]at *
 obtain⟨a3,ea3,qa3⟩:=ab ((E.I F J1)+(1))
 omega
def G44:=fb (ta::(.not aai)::QP::afd) (cmp .eql (fn 131 (pr J0 (pr bR (.ar .add .i64 J1 (.int 1))))) (.int 0))<|aR fun F p0 p1 p2 p3 p4=>by
 have:=@aM F J1 (.int 1)
 have:=@HH F J0 bR J1 (.ar .add .i64 J1 (.int 1))
 try simp only[aa]at *
 grind
def G45:=fb Ql (cmp .lss (fn 7 (pr (fn 0 J0) (.ar .add .i64 J1 (.int 1)))) (fn 7 (pr (fn 0 J0) J1)))<|am fun F p0 p1 p2=>by
 try simp only[aa,ae]at *
 obtain⟨a3,ea3,qa3⟩:=ab ((E.I F J1)+(1))
 omega
def G46:=fb (ta::J6) (.not (cmp .lss (fn 7 (pr (fn 0 J0) (.ar .add .i64 J1 (.int 1)))) (.int 0)))<|ax fun F p0 p1=>by
 try simp only[aa,ae]at *
 obtain⟨a3,ea3,qa3⟩:=ab ((E.I F J1)+(1))
 omega
def aG:List Fa:=[QU,G40,G41,G42,G43,G44,G45,G46]
theorem avD:aW Try.prog (bu (av4)):=sc aG (aAa) Yk ([]) (by kernel_rfl) (by kernel_rfl)
def agJ:Nl:=nc avD Yk
def Xb:=fb ([gN,adi]) gy<|ax fun F p0 p1=>by
 have:=@cI F J0 bR cz co J1 bS eU eW bq
 try simp only[aa]at *
 grind
def XM:=fb ([gN,J5,WJ]) gy<|am fun F p0 p1 p2=>by
 have:=@cI F J0 bR cz co J1 bS eU eW bq
 try simp only[aa]at *
 grind
def G49:=fb ([gN,J5,lK,T9]) gy<|aH fun F p0 p1 p2 p3=>by
 have:=@cI F J0 bR cz co J1 bS eU eW bq
 try simp only[aa]at *
 grind
def WP:=fb ([gN,J5,lK,mT,ahe]) gy<|aR fun F p0 p1 p2 p3 p4=>by
 have:=@cI F J0 bR cz co J1 bS eU eW bq
 try simp only[aa]at *
 grind
def G51:=fb ([gN,J5,lK,mT,qW,ZO]) gy<|cr fun F p0 p1 p2 p3 p4 p5=>by
 have:=@cI F J0 bR cz co J1 bS eU eW bq
 try simp only[aa]at *
 grind
def G52:=fb ([gN,J5,lK,mT,qW,wA,ad4]) gy<|de fun F p0 p1 p2 p3 p4 p5 p6=>by
 have:=@cI F J0 bR cz co J1 bS eU eW bq
 try simp only[aa]at *
 grind
def G53:=fb (gN::J5::lK::mT::qW::wA::Ca::FJ::H0::rB::(.not FL)::Nq::(.not AU)::VZ) Ys<|Ee fun F p0 p1 p2 p3 p4 p5 p6 p7 p8 p9 aj ak ao aq av az aG ap au=>by
 have:=@cI F J0 bR cz co J1 bS eU eW bq
 try simp only[aa]at *
 grind
def G54:=fb (gN::J5::lK::mT::qW::wA::Ca::FJ::H0::rB::(.not FL)::Nq::AU::VZ) (.iff oV Gm)<|Ee fun F p0 p1 p2 p3 p4 p5 p6 p7 p8 p9 aj ak ao aq av az aG ap au=>by
 have:=@cI F J0 bR cz co J1 bS eU eW bq
 try simp only[aa]at *
 grind
def G55:=fb ([rB,(.not FL),(.not Nq)]) gy<|am fun F p0 p1 p2=>by
 have:=@cI F J0 bR cz co J1 bS eU eW bq
 try simp only[aa]at *
 grind
def Vk:=fb ([rB,FL]) gy<|ax fun F p0 p1=>by
 have:=@cI F J0 bR cz co J1 bS eU eW bq
 try simp only[aa]at *
 grind
def Sr:=fb ([rB,YR]) gy<|ax fun F p0 p1=>by
 have:=@cI F J0 bR cz co J1 bS eU eW bq
 try simp only[aa]at *
 grind
def UI:=fb ([acr]) gy<|aB fun F p0=>by
 have:=@cI F J0 bR cz co J1 bS eU eW bq
 try simp only[aa]at *
 grind
def G59:=fb ([Ca,FJ,(.not H0)]) gy<|am fun F p0 p1 p2=>by
 have:=@cI F J0 bR cz co J1 bS eU eW bq
 try simp only[aa]at *
 grind
def G60:=fb ([Ca,(.not FJ)]) gy<|ax fun F p0 p1=>by
 have:=@cI F J0 bR cz co J1 bS eU eW bq
 try simp only[aa]at *
 grind
def G61:=fb (gN::J5::lK::mT::qW::wA::Ln::rB::(.not AU)::agY) Ys<|nO fun F p0 p1 p2 p3 p4 p5 p6 p7 p8 p9 aj ak ao aq av az=>by
 have:=@cI F J0 bR cz co J1 bS eU eW bq
 try simp only[aa]at *
 grind
def G62:=fb (gN::J5::lK::mT::qW::wA::Ln::rB::AU::agY) (.iff oV Gm)<|nO fun F p0 p1 p2 p3 p4 p5 p6 p7 p8 p9 aj ak ao aq av az=>by
 have:=@cI F J0 bR cz co J1 bS eU eW bq
 try simp only[aa]at *
 grind
def VY:=fb ([gN,J5,lK,mT,qW,ZJ]) gy<|cr fun F p0 p1 p2 p3 p4 p5=>by
 have:=@cI F J0 bR cz co J1 bS eU eW bq
 try simp only[aa]at *
 grind
def G64:=fb ([gN,J5,lK,mT,acD]) gy<|aR fun F p0 p1 p2 p3 p4=>by
 have:=@cI F J0 bR cz co J1 bS eU eW bq
 try simp only[aa]at *
 grind
def G65:=fb ([gN,J5,lK,M6]) gy<|aH fun F p0 p1 p2 p3=>by
 have:=@cI F J0 bR cz co J1 bS eU eW bq
 try simp only[aa]at *
 grind
def Qv:=fb ([gN,J5,Sg]) gy<|am fun F p0 p1 p2=>by
 have:=@cI F J0 bR cz co J1 bS eU eW bq
 try simp only[aa]at *
 grind
def G67:=fb ([gN,J4]) gy<|ax fun F p0 p1=>by
 have:=@cI F J0 bR cz co J1 bS eU eW bq
 try simp only[aa]at *
 grind
def G68:=fb ([E7]) gy<|aB fun F p0=>by
 have:=@cI F J0 bR cz co J1 bS eU eW bq
 try simp only[aa]at *
 grind
def ap:List Fa:=[Xb,XM,G49,WP,G51,G52,G53,G54,G55,Vk,Sr,UI,G59,G60,G61,G62,VY,G64,G65,Qv,G67,G68]
theorem ajJ:aW Try.prog (bu (aaC 106)):=sc ap ([]) agJ ([]) (by kernel_rfl) (by kernel_rfl)
def VJ:Nl:=nc ajJ agJ
def G69:=fa ((fn 104 (pr (fn 10 (.int 0)) (pr J0 (pr (.int 0) Il)))))<|fun F=>by
 rfl
def G70:=fb jq (.not (cmp .lss (.int 40) (fn 0 (fn 1 (pr J0 (.int 6))))))<|aB fun F p0=>by
 have:=aC p0
 try simp only[aa]at *
 omega
def G71:=fb jq (.not (cmp .lss (.int 40) (fn 0 (fn 1 (pr J0 (.int 7))))))<|aB fun F p0=>by
 have:=aC p0
 try simp only[aa]at *
 omega
def TZ:=fb jq (.not (cmp .lss (.int 40) (fn 0 (fn 1 (pr J0 (.int 8))))))<|aB fun F p0=>by
 have:=aC p0
 try simp only[aa]at *
 omega
def G73:=fb jq (.not (cmp .lss (.int 40) (fn 0 (fn 1 (pr J0 (.int 9))))))<|aB fun F p0=>by
 have:=aC p0
 try simp only[aa]at *
 omega
def PD:=fb ([oC]) ab4<|aB fun F p0=>by
 try simp only[aa,ae]at *
 obtain⟨a1,ea1,qa1⟩:=ab ((E.I F bq)+(1))
 omega
def G75:=fb jq (.not (cmp .lss (.int 40) (fn 0 (fn 1 (pr J0 (.int 20))))))<|aB fun F p0=>by
 have:=aC p0
 try simp only[aa]at *
 omega
def G76:=fb jq (.not (cmp .lss (.int 40) (fn 0 (fn 1 (pr J0 (.int 21))))))<|aB fun F p0=>by
 have:=aC p0
 try simp only[aa]at *
 omega
def G77:=fb jq (.not (cmp .lss (.int 40) (fn 0 (fn 1 (pr J0 (.int 22))))))<|aB fun F p0=>by
 have:=aC p0
 try simp only[aa]at *
 omega
def G78:=fb jq (.not (cmp .lss (.int 40) (fn 0 (fn 1 (pr J0 (.int 23))))))<|aB fun F p0=>by
 have:=aC p0
 try simp only[aa]at *
 omega
def G79:=fb ([lJ]) ab4<|aB fun F p0=>by
 try simp only[aa,ae]at *
 obtain⟨a1,ea1,qa1⟩:=ab ((E.I F bq)+(1))
 omega
def y7:=fb jq (.not (cmp .lss (.int 20) (fn 9 (pr (fn 1 (pr J0 (.int 29))) (.int 5)))))<|aB fun F p0=>by
 have:=aC p0
 try simp only[aa]at *
 omega
def G81:=fb ([C7,iE,oC]) (fn 109 (pr (fn 1 (pr J0 (.int 6))) nC))<|am fun F p0 p1 p2=>by
 obtain⟨g0,g1⟩:E.I F bq=(0)/\E.I F dl=(0):=by
  try simp only[aa]at *
  omega
 exact iI 0 0 6 (by decide) (by rfl) g0 g1
def G82:=fb ([BU,iE,oC]) (fn 109 (pr (fn 1 (pr J0 (.int 7))) nC))<|am fun F p0 p1 p2=>by
 obtain⟨g0,g1⟩:E.I F bq=(0)/\E.I F dl=(1):=by
  try simp only[aa]at *
  omega
 exact iI 0 1 7 (by decide) (by rfl) g0 g1
def G83:=fb ([By,iE,oC]) (fn 109 (pr (fn 1 (pr J0 (.int 8))) nC))<|am fun F p0 p1 p2=>by
 obtain⟨g0,g1⟩:E.I F bq=(0)/\E.I F dl=(2):=by
  try simp only[aa]at *
  omega
 exact iI 0 2 8 (by decide) (by rfl) g0 g1
def G84:=fb ((.not C7)::(.not BU)::(.not By)::iE::RS) (fn 109 (pr (fn 1 (pr J0 (.int 9))) nC))<|de fun F p0 p1 p2 p3 p4 p5 p6=>by
 obtain⟨g0,g1⟩:E.I F bq=(0)/\E.I F dl=(3):=by
  try simp only[aa]at *
  omega
 exact iI 0 3 9 (by decide) (by rfl) g0 g1
def G85:=fb ([oC]) Q6<|aB fun F p0=>by
 try simp only[aa,ae]at *
 obtain⟨a1,ea1,qa1⟩:=ab ((E.I F bq)+(1))
 omega
def G86:=fb (lJ::C7::jq) (fn 109 (pr (fn 1 (pr J0 (.int 20))) nC))<|am fun F p0 p1 p2=>by
 obtain⟨g0,g1⟩:E.I F bq=(1)/\E.I F dl=(0):=by
  try simp only[aa]at *
  omega
 exact iI 1 0 20 (by decide) (by rfl) g0 g1
def G87:=fb (lJ::BU::jq) (fn 109 (pr (fn 1 (pr J0 (.int 21))) nC))<|am fun F p0 p1 p2=>by
 obtain⟨g0,g1⟩:E.I F bq=(1)/\E.I F dl=(1):=by
  try simp only[aa]at *
  omega
 exact iI 1 1 21 (by decide) (by rfl) g0 g1
def G88:=fb (lJ::By::jq) (fn 109 (pr (fn 1 (pr J0 (.int 22))) nC))<|am fun F p0 p1 p2=>by
 obtain⟨g0,g1⟩:E.I F bq=(1)/\E.I F dl=(2):=by
  try simp only[aa]at *
  omega
 exact iI 1 2 22 (by decide) (by rfl) g0 g1
def G89:=fb (lJ::(.not C7)::(.not BU)::(.not By)::iE::rn) (fn 109 (pr (fn 1 (pr J0 (.int 23))) nC))<|de fun F p0 p1 p2 p3 p4 p5 p6=>by
 obtain⟨g0,g1⟩:E.I F bq=(1)/\E.I F dl=(3):=by
  try simp only[aa]at *
  omega
 exact iI 1 3 23 (by decide) (by rfl) g0 g1
def G90:=fb ([lJ]) Q6<|aB fun F p0=>by
 try simp only[aa,ae]at *
 obtain⟨a1,ea1,qa1⟩:=ab ((E.I F bq)+(1))
 omega
def G91:=fb ([(.not (cmp .lss bq (.int 2))),iE,(fn 104 (pr (var 9) (pr J0 (pr bq Il)))),(.not (cmp .lss (.int 2) bq))]) (fn 105 (pr (var 9) (pr J0 (.int 0))))<|aH fun F p0 p1 p2 p3=>by
 have g0:E.I F bq=(2):=by
  try simp only[aa]at *
  omega
 have g1:E.I F _=E.I F (.int 0):=rfl;have g2:E.I F _=E.I F (.int 0):=rfl;have g3:E.I F _=E.I F (.int 0):=rfl;exact azA p2 g0 g1 g2 g3
def G92:=fb (sA::(fn 33 (pr tz (fn 1 (pr jK eS))))::yb::xf::Ps) lM<|dw fun F p0 p1 p2 p3 p4 p5 p6 p7=>by
 have:=@Fk F _ _ _ (fn 6 (pr eS (.int 1))) _ _ _ p2 p3
 try simp only[aa]at *
 grind
def G93:=fb Qh (.not (cmp .lss (.ar .add .i64 eS (.int 1)) (.int 0)))<|am fun F p0 p1 p2=>by
 try simp only[aa,ae]at *
 obtain⟨a2,ea2,qa2⟩:=ab ((E.I F eS)+(1))
 omega
def G94:=fb rn (.not (cmp .lss (.ar .add .i64 dl (.int 1)) (.int 0)))<|ax fun F p0 p1=>by
 try simp only[aa,ae]at *
 obtain⟨a1,ea1,qa1⟩:=ab ((E.I F dl)+(1))
 omega
def G95:=fb (lJ::sA::(fn 33 (pr tz (fn 1 (pr jK eS))))::yb::xf::Xp) lM<|dw fun F p0 p1 p2 p3 p4 p5 p6 p7=>by
 have:=@Fk F _ _ _ (fn 6 (pr eS (.int 1))) _ _ _ p3 p4
 try simp only[aa]at *
 grind
def G96:=fb ((.not Aq)::iE::oC::acE) Un<|aR fun F p0 p1 p2 p3 p4=>by
 obtain⟨g0,g1,g2,g3,g4⟩:(0)<=E.I F bq/\(0)<=E.I F dl/\(0)<=E.I F (.ar .add .i64 bq (.int 1))/\(0)<=(0)/\E.I F (fn 6 (pr (fn 8 (pr (.ar .add .i64 bq (.int 1)) (.int 4))) (.int 0)))=E.I F (fn 6 (pr (fn 8 (pr bq (.int 4))) dl)):=by
  try simp only[aa,ae]at *
  obtain⟨a2,ea2,qa2⟩:=ab ((E.I F bq)+(1))
  omega
 have g5:E.I F _=E.I F (.int 0):=rfl;exact WG p3 (by omega) (by omega) (by omega) (by simp_all) g4 g5
def G97:=fb (lJ::(.not Aq)::iE::acE) Un<|aR fun F p0 p1 p2 p3 p4=>by
 obtain⟨g0,g1,g2,g3,g4⟩:(0)<=E.I F bq/\(0)<=E.I F dl/\(0)<=E.I F (.ar .add .i64 bq (.int 1))/\(0)<=(0)/\E.I F (fn 6 (pr (fn 8 (pr (.ar .add .i64 bq (.int 1)) (.int 4))) (.int 0)))=E.I F (fn 6 (pr (fn 8 (pr bq (.int 4))) dl)):=by
  try simp only[aa,ae]at *
  obtain⟨a2,ea2,qa2⟩:=ab ((E.I F bq)+(1))
  omega
 have g5:E.I F _=E.I F (.int 0):=rfl;exact WG p3 (by omega) (by omega) (by omega) (by simp_all) g4 g5
def G98:=fa ((fn 106 (pr (fn 10 (.int 0)) (pr J0 (.int 0)))))<|fun F=>by
 rfl
def G99:=fb Wz (.not (cmp .lss (fn 0 jK) (.ar .add .i64 eS (.int 1))))<|ax fun F p0 p1=>by
 try simp only[aa,ae]at *
 obtain⟨a2,ea2,qa2⟩:=ab ((E.I F eS)+(1))
 omega
def aD3:=fb rn (.not (cmp .lss (.int 4) (.ar .add .i64 dl (.int 1))))<|ax fun F p0 p1=>by
 try simp only[aa,ae]at *
 obtain⟨a1,ea1,qa1⟩:=ab ((E.I F dl)+(1))
 omega
def O9:=fb ([oC]) Zy<|aB fun F p0=>by
 try simp only[aa,ae]at *
 obtain⟨a1,ea1,qa1⟩:=ab ((E.I F bq)+(1))
 omega
def aa0:=fb ([lJ]) Zy<|aB fun F p0=>by
 try simp only[aa,ae]at *
 obtain⟨a1,ea1,qa1⟩:=ab ((E.I F bq)+(1))
 omega
def akI:=fb (tN::HG::(fn 33 (pr wh (fn 1 (pr (fn 1 (pr J0 (.int 29))) (fn 6 (pr (fn 8 (pr dE (.int 5))) (.int 1)))))))::RL) lM<|cr fun F p0 p1 p2 p3 p4 p5=>by
 have:=fun a b hn=>@xj F (fn 6 (pr dE (.int 1))) _ _ _ _ p4 p3 a b hn _ _ _ _ rfl rfl rfl rfl
 try simp only[aa]at *
 grind
def aBx:=fb Ea (.not (cmp .lss (.ar .add .i64 dE (.int 1)) (.int 0)))<|am fun F p0 p1 p2=>by
 have:=aC p0
 try simp only[aa,ae]at *
 obtain⟨a2,ea2,qa2⟩:=ab ((E.I F dE)+(1))
 omega
def M4:=fb jq (.not (cmp .lss (.int 30) (fn 9 (pr (fn 1 (pr J0 (.int 0))) (.int 12)))))<|aB fun F p0=>by
 have:=aC p0
 try simp only[aa]at *
 omega
def aEN:=fb (sA::Rv::yb::xf::IS::Ps) Qa<|eB fun F p0 p1 p2 p3 p4 p5 p6 p7 p8=>by
 have:=@aM F eS (.int 1)
 have:=@Fk F _ _ _ (.ar .add .i64 eS (.int 1)) _ _ _ p2 p3
 try simp only[aa]at *
 grind
def ast:=fb ((.not sA)::iE::yb::xf::(.not (cmp .lss (fn 0 jK) eS))::rn) (fn 104 (pr tz (pr J0 (pr bq (pr (.ar .add .i64 dl (.int 1)) (.int 0))))))<|de fun F p0 p1 p2 p3 p4 p5 p6=>by
 obtain⟨g0,g1,g2⟩:(0)<=E.I F dl/\E.I F eS=E.I F (fn 0 jK)/\E.I F (.ar .add .i64 dl (.int 1))=E.I F (fn 6 (pr dl (.int 1))):=by
  try simp only[aa,ae]at *
  obtain⟨a3,ea3,qa3⟩:=ab ((E.I F dl)+(1))
  omega
 have g3:E.I F _=E.I F (.int 0):=rfl;exact akT p2 p3 (by omega) g1 g2 g3
def aF9:=fb (lJ::sA::Rv::yb::xf::IS::Xp) Qa<|eB fun F p0 p1 p2 p3 p4 p5 p6 p7 p8=>by
 have:=@aM F eS (.int 1)
 have:=@Fk F _ _ _ (.ar .add .i64 eS (.int 1)) _ _ _ p3 p4
 try simp only[aa]at *
 grind
def adS:=fb ([oC]) adj<|aB fun F p0=>by
 try simp only[aa,ae]at *
 obtain⟨a1,ea1,qa1⟩:=ab ((E.I F bq)+(1))
 omega
def YG:=fb ([lJ]) adj<|aB fun F p0=>by
 try simp only[aa,ae]at *
 obtain⟨a1,ea1,qa1⟩:=ab ((E.I F bq)+(1))
 omega
def asj:=fb Ea (.not (cmp .lss (fn 9 (pr (fn 1 (pr J0 (.int 29))) (.int 5))) (.ar .add .i64 dE (.int 1))))<|am fun F p0 p1 p2=>by
 try simp only[aa,ae]at *
 obtain⟨a2,ea2,qa2⟩:=ab ((E.I F dE)+(1))
 omega
def akX:=fb ((.not tN)::iE::aef::SI) (fn 105 (pr wh Cx))<|aH fun F p0 p1 p2 p3=>by
 have g0:E.I F (fn 9 (pr (fn 1 (pr J0 (.int 29))) (.int 5)))=E.I F dE:=by
  try simp only[aa]at *
  omega
 grind[axK]
def aEz:=fb Qh (cmp .lss (fn 7 (pr (fn 0 jK) (.ar .add .i64 eS (.int 1)))) (fn 7 (pr (fn 0 jK) eS)))<|am fun F p0 p1 p2=>by
 try simp only[aa,ae]at *
 obtain⟨a2,ea2,qa2⟩:=ab ((E.I F eS)+(1))
 omega
def auI:=fb rn (cmp .lss (fn 7 (pr (.int 4) (.ar .add .i64 dl (.int 1)))) (fn 7 (pr (.int 4) dl)))<|ax fun F p0 p1=>by
 try simp only[aa,ae]at *
 obtain⟨a1,ea1,qa1⟩:=ab ((E.I F dl)+(1))
 omega
def as9:=fb VC (fn 105 (pr (fn 34 (pr wh (pr (fn 1 (pr (fn 1 (pr J0 (.int 29))) (fn 6 (pr (fn 8 (pr dE (.int 5))) (.int 1))))) (fn 1 (pr (fn 1 (pr J0 (.int 29))) (fn 6 (pr (fn 8 (pr dE (.int 5))) (.int 0)))))))) Eb))<|de fun F p0 p1 p2 p3 p4 p5 p6=>by
 have:=aC p3
 have:=@aM F dE (.int 1)
 have:=fun a b hn=>@xj F (.ar .add .i64 dE (.int 1)) _ _ _ _ p5 p4 a b hn _ _ _ _ rfl rfl rfl rfl
 try simp only[aa]at *
 grind
def aqT:=fb YV (fn 105 (pr wh Eb))<|cr fun F p0 p1 p2 p3 p4 p5=>by
 have:=aC p2
 have:=@aM F dE (.int 1)
 have:=fun a b hn=>@xj F (.ar .add .i64 dE (.int 1)) _ _ _ _ p4 p3 a b hn _ _ _ _ rfl rfl rfl rfl
 try simp only[aa]at *
 grind
def aHj:=fb ((.not tN)::iE::aae::SI) (fn 106 (pr ET Cx))<|aH fun F p0 p1 p2 p3=>by
 have g0:E.I F (fn 9 (pr (fn 1 (pr J0 (.int 29))) (.int 5)))=E.I F dE:=by
  try simp only[aa]at *
  omega
 grind[ayc]
def aj3:=fb Wz (.not (cmp .lss (fn 7 (pr (fn 0 jK) (.ar .add .i64 eS (.int 1)))) (.int 0)))<|ax fun F p0 p1=>by
 try simp only[aa,ae]at *
 obtain⟨a2,ea2,qa2⟩:=ab ((E.I F eS)+(1))
 omega
def ajr:=fb rn (.not (cmp .lss (fn 7 (pr (.int 4) (.ar .add .i64 dl (.int 1)))) (.int 0)))<|ax fun F p0 p1=>by
 try simp only[aa,ae]at *
 obtain⟨a1,ea1,qa1⟩:=ab ((E.I F dl)+(1))
 omega
def ayS:=fb VC (fn 106 (pr (fn 34 (pr ET (pr (fn 1 (pr (fn 1 (pr J0 (.int 29))) (fn 6 (pr (fn 8 (pr dE (.int 5))) (.int 1))))) (fn 1 (pr (fn 1 (pr J0 (.int 29))) (fn 6 (pr (fn 8 (pr dE (.int 5))) (.int 2)))))))) Eb))<|de fun F p0 p1 p2 p3 p4 p5 p6=>by
 have:=aC p3
 have:=@aM F dE (.int 1)
 have:=fun a b hn=>@xj F (.ar .add .i64 dE (.int 1)) _ _ _ _ p5 p4 a b hn _ _ _ _ rfl rfl rfl rfl
 try simp only[aa]at *
 grind
def at5:=fb YV (fn 106 (pr ET Eb))<|cr fun F p0 p1 p2 p3 p4 p5=>by
 have:=aC p2
 have:=@aM F dE (.int 1)
 have:=fun a b hn=>@xj F (.ar .add .i64 dE (.int 1)) _ _ _ _ p4 p3 a b hn _ _ _ _ rfl rfl rfl rfl
 try simp only[aa]at *
 grind
def ajV:=fa ((fn 107 (pr J0 (.int 0))))<|fun F=>by
 rfl
def arv:=fb Ea (cmp .lss (fn 7 (pr (fn 9 (pr (fn 1 (pr J0 (.int 29))) (.int 5))) (.ar .add .i64 dE (.int 1)))) (fn 7 (pr (fn 9 (pr (fn 1 (pr J0 (.int 29))) (.int 5))) dE)))<|am fun F p0 p1 p2=>by
 have:=aC p0
 try simp only[aa,ae]at *
 obtain⟨a2,ea2,qa2⟩:=ab ((E.I F dE)+(1))
 omega
def az2:=fb MG (.not (cmp .lss (.ar .sub .i64 aX (.int 1)) (.int 0)))<|am fun F p0 p1 p2=>by
 have:=aC p0
 try simp only[aa,ae]at *
 obtain⟨a2,ea2,qa2⟩:=ab ((E.I F aX)-(1))
 omega
def axR:=fb ([(.not iR),GS,GX,(.not (cmp .lss (fn 9 (pr (fn 1 (pr J0 (.int 0))) (.int 12))) aX))]) (.iff (cmp .eql (fn 0 mq) (fn 9 (pr (fn 1 (pr J0 (.int 0))) (.int 12)))) (fn 108 J0))<|aH fun F p0 p1 p2 p3=>by
 have:=@ayy F _ _ _ p2 p1
 try simp only[aa]at *
 grind
def aBy:=fb Ea (.not (cmp .lss (fn 7 (pr (fn 9 (pr (fn 1 (pr J0 (.int 29))) (.int 5))) (.ar .add .i64 dE (.int 1)))) (.int 0)))<|am fun F p0 p1 p2=>by
 try simp only[aa,ae]at *
 obtain⟨a2,ea2,qa2⟩:=ab ((E.I F dE)+(1))
 omega
def aC2:=fb A5 (cmp .lss (.ar .sub .i64 aX (.int 1)) (fn 9 (pr (fn 1 (pr J0 (.int 0))) (.int 12))))<|ax fun F p0 p1=>by
 try simp only[aa,ae]at *
 obtain⟨a2,ea2,qa2⟩:=ab ((E.I F aX)-(1))
 omega
def amz:=fb L7 ad3<|ax fun F p0 p1=>by
 try simp only[aa,ae]at *
 obtain⟨a1,ea1,qa1⟩:=ab ((E.I F aX)+(1))
 omega
def aGE:=fb (iR::pI::og::ui::(fn 33 (pr mq (fn 1 (pr (fn 1 (pr J0 (.int 0))) (fn 6 (pr (fn 8 (pr aX (.int 12))) (.int 0)))))))::(fn 33 (pr wW (fn 1 (pr (fn 1 (pr J0 (.int 0))) (fn 6 (pr (fn 8 (pr aX (.int 12))) (.int 0)))))))::(.not Er)::xM) lM<|iu fun F p0 p1 p2 p3 p4 p5 p6 p7 p8 p9 aj=>by
 have:=@kW F _ (fn 6 (pr aX (.int 1))) _ _ _ p9 p8 p7 (.ar .sub .i64 aX (.int 1)) _ _ _ _ _ _ _ _ _ rfl rfl rfl rfl rfl rfl rfl rfl rfl
 try simp only[aa]at *
 grind
def alD:=fb (iR::ui::(.not tA)::xM) lM<|de fun F p0 p1 p2 p3 p4 p5 p6=>by
 have:=@kW F _ (fn 6 (pr aX (.int 1))) _ _ _ p5 p4 p3 (.ar .sub .i64 aX (.int 1)) _ _ _ _ _ _ _ _ _ rfl rfl rfl rfl rfl rfl rfl rfl rfl
 try simp only[aa]at *
 grind
def aGO:=fb (iR::ui::adp::xM) lM<|de fun F p0 p1 p2 p3 p4 p5 p6=>by
 have:=@kW F _ (fn 6 (pr aX (.int 1))) _ _ _ p5 p4 p3 (.ar .sub .i64 aX (.int 1)) _ _ _ _ _ _ _ _ _ rfl rfl rfl rfl rfl rfl rfl rfl rfl
 try simp only[aa]at *
 grind
def aDA:=fb MG ad3<|am fun F p0 p1 p2=>by
 have:=aC p0
 try simp only[aa,ae]at *
 obtain⟨a2,ea2,qa2⟩:=ab ((E.I F aX)+(1))
 omega
def aH7:=fb (iR::pI::og::pB::DR::(fn 33 (pr mq (fn 1 (pr (fn 1 (pr J0 (.int 0))) (fn 6 (pr (fn 8 (pr aX (.int 12))) (.int 0)))))))::(fn 33 (pr wW (fn 1 (pr (fn 1 (pr J0 (.int 0))) (fn 6 (pr (fn 8 (pr aX (.int 12))) (.int 0)))))))::(.not Er)::qG) lM<|iN fun F p0 p1 p2 p3 p4 p5 p6 p7 p8 p9 aj ak ao=>by
 have:=aC ao
 have:=@bH F aX (.int 1)
 have:=@kW F _ (fn 6 (pr aX (.int 1))) _ _ _ aj p9 p8 (.ar .sub .i64 aX (.int 1)) _ _ _ _ _ _ _ _ _ rfl rfl rfl rfl rfl rfl rfl rfl rfl
 try simp only[aa]at *
 grind
def azj:=fb (iR::pB::(.not tA)::qG) lM<|dw fun F p0 p1 p2 p3 p4 p5 p6 p7=>by
 have:=aC p7
 have:=@bH F aX (.int 1)
 have:=@kW F _ (fn 6 (pr aX (.int 1))) _ _ _ p5 p4 p3 (.ar .sub .i64 aX (.int 1)) _ _ _ _ _ _ _ _ _ rfl rfl rfl rfl rfl rfl rfl rfl rfl
 try simp only[aa]at *
 grind
def aIO:=fb (iR::pB::adp::qG) lM<|dw fun F p0 p1 p2 p3 p4 p5 p6 p7=>by
 have:=aC p7
 have:=@bH F aX (.int 1)
 have:=@kW F _ (fn 6 (pr aX (.int 1))) _ _ _ p5 p4 p3 (.ar .sub .i64 aX (.int 1)) _ _ _ _ _ _ _ _ _ rfl rfl rfl rfl rfl rfl rfl rfl rfl
 try simp only[aa]at *
 grind
def auT:=fb (iR::pI::og::pB::(.not DR)::qG) lM<|iD fun F p0 p1 p2 p3 p4 p5 p6 p7 p8 p9=>by
 have:=aC p9
 have:=@bH F aX (.int 1)
 have:=@kW F _ (fn 6 (pr aX (.int 1))) _ _ _ p7 p6 p5 (.ar .sub .i64 aX (.int 1)) _ _ _ _ _ _ _ _ _ rfl rfl rfl rfl rfl rfl rfl rfl rfl
 try simp only[aa]at *
 grind
def axq:=fb (iR::pI::(.not og)::qG) lM<|dw fun F p0 p1 p2 p3 p4 p5 p6 p7=>by
 have:=aC p7
 have:=@bH F aX (.int 1)
 have:=@kW F _ (fn 6 (pr aX (.int 1))) _ _ _ p5 p4 p3 (.ar .sub .i64 aX (.int 1)) _ _ _ _ _ _ _ _ _ rfl rfl rfl rfl rfl rfl rfl rfl rfl
 try simp only[aa]at *
 grind
def ajQ:=fb Po UW<|am fun F p0 p1 p2=>by
 try simp only[aa,ae]at *
 obtain⟨a2,ea2,qa2⟩:=ab ((E.I F aX)+(1))
 omega
def amD:=fb A5 UW<|ax fun F p0 p1=>by
 try simp only[aa,ae]at *
 obtain⟨a2,ea2,qa2⟩:=ab ((E.I F aX)+(1))
 omega
def aAD:=fb (iR::pI::og::ui::(fn 33 (pr mq (fn 1 (pr (fn 1 (pr J0 (.int 0))) (fn 6 (pr (fn 8 (pr aX (.int 12))) (.int 0)))))))::tA::Qm::xM) EN<|iu fun F p0 p1 p2 p3 p4 p5 p6 p7 p8 p9 aj=>by
 have:=@aM F aX (.int 1)
 have:=@kW F _ (.ar .add .i64 aX (.int 1)) _ _ _ p9 p8 p7 (.ar .sub .i64 aX (.int 1)) _ _ _ _ _ _ _ _ _ rfl rfl rfl rfl rfl rfl rfl rfl rfl
 try simp only[aa]at *
 grind
def aBE:=fb (iR::pI::og::ui::(fn 33 (pr mq (fn 1 (pr (fn 1 (pr J0 (.int 0))) (fn 6 (pr (fn 8 (pr aX (.int 12))) (.int 0)))))))::tA::Er::xM) EN<|iu fun F p0 p1 p2 p3 p4 p5 p6 p7 p8 p9 aj=>by
 have:=@aM F aX (.int 1)
 have:=@kW F _ (.ar .add .i64 aX (.int 1)) _ _ _ p9 p8 p7 (.ar .sub .i64 aX (.int 1)) _ _ _ _ _ _ _ _ _ rfl rfl rfl rfl rfl rfl rfl rfl rfl
 try simp only[aa]at *
 grind
def ahy:=fb (iR::pI::og::pB::DR::(fn 33 (pr mq (fn 1 (pr (fn 1 (pr J0 (.int 0))) (fn 6 (pr (fn 8 (pr aX (.int 12))) (.int 0)))))))::tA::Qm::qG) EN<|iN fun F p0 p1 p2 p3 p4 p5 p6 p7 p8 p9 aj ak ao=>by
 have:=aC ao
 have:=@bH F aX (.int 1)
 have:=@aM F aX (.int 1)
 have:=@kW F _ (.ar .add .i64 aX (.int 1)) _ _ _ aj p9 p8 (.ar .sub .i64 aX (.int 1)) _ _ _ _ _ _ _ _ _ rfl rfl rfl rfl rfl rfl rfl rfl rfl
 try simp only[aa]at *
 grind
def aGR:=fb (iR::pI::og::pB::DR::(fn 33 (pr mq (fn 1 (pr (fn 1 (pr J0 (.int 0))) (fn 6 (pr (fn 8 (pr aX (.int 12))) (.int 0)))))))::tA::Er::qG) EN<|iN fun F p0 p1 p2 p3 p4 p5 p6 p7 p8 p9 aj ak ao=>by
 have:=aC ao
 have:=@bH F aX (.int 1)
 have:=@aM F aX (.int 1)
 have:=@kW F _ (.ar .add .i64 aX (.int 1)) _ _ _ aj p9 p8 (.ar .sub .i64 aX (.int 1)) _ _ _ _ _ _ _ _ _ rfl rfl rfl rfl rfl rfl rfl rfl rfl
 try simp only[aa]at *
 grind
def aDt:=fb L7 OF<|ax fun F p0 p1=>by
 try simp only[aa,ae]at *
 obtain⟨a2,ea2,qa2⟩:=ab ((E.I F aX)+(1))
 omega
def aAb:=fb MG OF<|am fun F p0 p1 p2=>by
 have:=aC p0
 try simp only[aa,ae]at *
 obtain⟨a2,ea2,qa2⟩:=ab ((E.I F aX)+(1))
 omega
def akH:=fb Po ahc<|am fun F p0 p1 p2=>by
 try simp only[aa,ae]at *
 obtain⟨a2,ea2,qa2⟩:=ab ((E.I F aX)+(1))
 omega
def aIn:=fb A5 ahc<|ax fun F p0 p1=>by
 try simp only[aa,ae]at *
 obtain⟨a2,ea2,qa2⟩:=ab ((E.I F aX)+(1))
 omega
def au:List Fa:=[G69,G70,G71,TZ,G73,PD,G75,G76,G77,G78,G79,y7,G81,G82,G83,G84,G85,G86,G87,G88,G89,G90,G91,G92,G93,G94,G95,G96,G97,G98,G99,aD3,O9,aa0,akI,aBx,M4,aEN,ast,aF9,adS,YG,asj,akX,aEz,auI,as9,aqT,aHj,aj3,ajr,ayS,at5,ajV,arv,az2,axR,aBy,aC2,amz,aGE,alD,aGO,aDA,aH7,azj,aIO,auT,axq,ajQ,amD,aAD,aBE,ahy,aGR,aDt,aAb,akH,aIn]
theorem art:aW Try.prog (bu (ai7)):=sc au (aBw) VJ ([]) (by kernel_rfl) (by kernel_rfl)
def agT:Nl:=nc art VJ
end
end Go.Proofs.Ytnnbmcfabojjjaa.payHolds
