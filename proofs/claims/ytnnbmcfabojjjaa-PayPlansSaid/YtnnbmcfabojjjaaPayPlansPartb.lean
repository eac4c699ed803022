/-
  PayPlans: contracts of functions, part 2.
-/
import Derived.Test.YtnnbmcfabojjjaaRows
import Derived.Test.YtnnbmcfabojjjaaNat
import Derived.WalkKit
import Derived.ProofKit
import Derived.OpenShut
import Derived.ChangeOld
import Derived.Below
import Derived.KernelRfl
import Derived.Lib.SmallJoins
import Derived.Laws.IdiomArrays
import Derived.Test.YtnnbmcfabojjjaaPayPlansParta
namespace Go.Proofs.Ytnnbmcfabojjjaa.payPlans
open Go.ChangeShapes Go.WideShapes Go.ChangeAt Go.RowKit
open Go.SX
open Go.SX.E (fn pr cmp var)
set_option linter.unusedVariables false
set_option linter.unusedSimpArgs false
set_option maxRecDepth 100000
noncomputable section
abbrev J0:E:=var 0
abbrev J1:E:=var 4
abbrev J2:E:=cmp .lss J1 (fn 9 (pr J0 (.int 2)))
abbrev J3:E:=cmp .lss (fn 1 (pr J0 (fn 6 (pr (fn 8 (pr J1 (.int 2))) (.int 0))))) (.int 0)
abbrev J4:E:=cmp .lss J1 (.int 0)
abbrev J5:E:=.not J4
abbrev J6:=[J5]
abbrev J7:E:=pr J0 (fn 9 (pr J0 (.int 2)))
abbrev J8:E:=fn 101 J7
abbrev J9:E:=.not J8
abbrev A3:E:=.iff J5 J9
abbrev zk:E:=.not J3
abbrev J12:E:=cmp .lss (fn 1 (pr J0 (fn 6 (pr (fn 8 (pr J1 (.int 2))) (.int 1))))) (.int 0)
abbrev EU:E:=.not J12
abbrev Iq:E:=cmp .lss (.int 1) (fn 1 (pr J0 (fn 6 (pr (fn 8 (pr J1 (.int 2))) (.int 1)))))
abbrev PW:E:=cmp .eql (fn 1 (pr J0 (fn 6 (pr (fn 8 (pr J1 (.int 2))) (.int 0))))) (.int 0)
abbrev J16:E:=cmp .eql (fn 1 (pr J0 (fn 6 (pr (fn 8 (pr J1 (.int 2))) (.int 1))))) (.int 0)
abbrev J17:E:=cmp .lss (.int 1000) (fn 9 (pr J0 (.int 2)))
abbrev J18:E:=.not J17
abbrev J19:=[J18]
abbrev J20:=J5::J19
abbrev J21:=J2::J20
abbrev fO:E:=.ar .add .i64 J1 (.int 1)
abbrev J23:E:=cmp .lss fO (.int 0)
abbrev Lj:E:=.not J23
abbrev J25:E:=cmp .lss (.int 500) (fn 1 (pr J0 (fn 6 (pr (fn 8 (pr J1 (.int 2))) (.int 0)))))
abbrev J26:E:=fn 101 (pr J0 J1)
abbrev kp:E:=.bool false
abbrev J28:=J26::J20
abbrev Yt:List E:=(.not J25)::J28
abbrev J30:E:=fn 101 (pr J0 fO)
abbrev J31:E:=cmp .lss J0 (.int 0)
abbrev bI:E:=var 1
abbrev cj:E:=var 2
abbrev ch:E:=var 3
abbrev bM:E:=var 5
abbrev J36:E:=pr ch (pr J1 bM)
abbrev J37:E:=pr cj J36
abbrev J38:E:=pr bI J37
abbrev J39:E:=pr J0 J38
abbrev J40:E:=fn 102 J39
abbrev mP:E:=.iff kp J40
abbrev kH:E:=.not J31
abbrev J43:E:=cmp .lss (.int 1) J0
abbrev lu:E:=.not J43
abbrev XV:E:=cmp .lss bI (.int 1)
abbrev mf:E:=.not XV
abbrev J47:E:=cmp .lss cj (.int 0)
abbrev oZ:E:=.not J47
abbrev J49:E:=cmp .lss ch (.int (-1))
abbrev va:E:=.not J49
abbrev Xn:E:=cmp .lss (.int 1) ch
abbrev zo:E:=.not Xn
abbrev J53:E:=cmp .lss (.int 4) (fn 9 (pr J1 (.int 2)))
abbrev BB:E:=.not J53
abbrev EC:E:=cmp .lss ch (.int 0)
abbrev gn:E:=.not EC
abbrev Nn:E:=cmp .lss (.int 0) (fn 9 (pr J1 (.int 2)))
abbrev d8:E:=var 6
abbrev O9:E:=cmp .lss d8 (.int 0)
abbrev mV:E:=.not O9
abbrev J61:E:=pr J1 (fn 9 (pr J1 (.int 2)))
abbrev J62:E:=fn 101 J61
abbrev J63:E:=.not J62
abbrev J64:E:=.iff mV J63
abbrev J65:E:=cmp .lss (.int 500) bI
abbrev J66:E:=.not J65
abbrev J67:E:=cmp .lss (.int 399) cj
abbrev J68:E:=.not J67
abbrev J69:=[J68]
abbrev J70:=J66::J69
abbrev Nc:=J64::J70
abbrev Rl:E:=.iff O9 J40
abbrev pU:E:=cmp .lss J1 (fn 9 (pr J0 (.int 5)))
abbrev J74:E:=pr (fn 1 (pr J0 (fn 6 (pr (fn 8 (pr J1 (.int 5))) (.int 4))))) kp
abbrev J75:E:=pr (fn 1 (pr J0 (fn 6 (pr (fn 8 (pr J1 (.int 5))) (.int 3))))) J74
abbrev J76:E:=pr (fn 1 (pr J0 (fn 6 (pr (fn 8 (pr J1 (.int 5))) (.int 2))))) J75
abbrev J77:E:=pr (fn 1 (pr J0 (fn 6 (pr (fn 8 (pr J1 (.int 5))) (.int 1))))) J76
abbrev J78:E:=pr (fn 1 (pr J0 (fn 6 (pr (fn 8 (pr J1 (.int 5))) (.int 0))))) J77
abbrev J79:E:=fn 102 J78
abbrev J80:E:=.iff bM J79
abbrev J81:E:=pr kp (fn 9 (pr J0 (.int 5)))
abbrev J82:E:=pr J0 J81
abbrev J83:E:=fn 103 J82
abbrev J84:E:=.not J83
abbrev J85:E:=cmp .lss (.int 1000) (fn 9 (pr J0 (.int 5)))
abbrev J86:E:=.not J85
abbrev J87:=[J86]
abbrev RC:=J5::J87
abbrev J89:=pU::RC
abbrev J90:E:=pr J0 (pr kp J1)
abbrev J91:E:=fn 103 J90
abbrev rC:E:=.bool true
abbrev J93:E:=pr (fn 1 (pr J0 (fn 6 (pr (fn 8 (pr J1 (.int 5))) (.int 4))))) rC
abbrev J94:E:=pr (fn 1 (pr J0 (fn 6 (pr (fn 8 (pr J1 (.int 5))) (.int 3))))) J93
abbrev J95:E:=pr (fn 1 (pr J0 (fn 6 (pr (fn 8 (pr J1 (.int 5))) (.int 2))))) J94
abbrev J96:E:=pr (fn 1 (pr J0 (fn 6 (pr (fn 8 (pr J1 (.int 5))) (.int 1))))) J95
abbrev J97:E:=pr (fn 1 (pr J0 (fn 6 (pr (fn 8 (pr J1 (.int 5))) (.int 0))))) J96
abbrev J98:E:=fn 102 J97
abbrev J99:E:=.iff bM J98
abbrev aLO:E:=pr rC (fn 9 (pr J0 (.int 5)))
abbrev au1:E:=pr J0 aLO
abbrev axX:E:=fn 103 au1
abbrev ank:E:=.not axX
abbrev avG:E:=pr J0 (pr rC J1)
abbrev agx:E:=fn 103 avG
abbrev xc:E:=cmp .lss J1 (fn 0 J0)
abbrev YM:E:=cmp .eql bI (fn 1 (pr J0 J1))
abbrev Uv:E:=fn 114 (pr J0 bI)
abbrev aM2:E:=cmp .lss (.int 1000) (fn 0 J0)
abbrev aGJ:E:=.not aM2
abbrev aPb:=[aGJ]
abbrev US:=J5::aPb
abbrev akT:=xc::US
abbrev af1:E:=cmp .eql (fn 131 (pr J0 (pr bI J1))) (.int 0)
abbrev abb:E:=cmp .lss (.int 99) ch
abbrev ef:E:=var 7
abbrev bl:E:=var 8
abbrev HY:E:=fn 137 (pr J0 (pr bI (pr cj (pr ch (pr J1 (pr bM (pr d8 (pr ef bl))))))))
abbrev gi:E:=.iff kp HY
abbrev aht:E:=cmp .lss (.int 99) J1
abbrev af9:E:=cmp .lss bM (.int 0)
abbrev mu:E:=.not af9
abbrev alo:E:=cmp .lss (.int 99) bM
abbrev aaf:E:=cmp .lss (.int 99) d8
abbrev ak1:E:=cmp .lss ef (.int 0)
abbrev sP:E:=.not ak1
abbrev ac3:E:=cmp .lss (.int 99) ef
abbrev aaW:E:=cmp .lss bl (.int 0)
abbrev CN:E:=.not aaW
abbrev Ug:E:=cmp .lss (.int 99) bl
abbrev RY:E:=cmp .eql bI (.int (-1))
abbrev GQ:E:=.not RY
abbrev Jg:E:=cmp .eql ch (.int 0)
abbrev Tl:E:=cmp .eql J1 (.int 0)
abbrev amq:E:=cmp .lss J0 (.int 1)
abbrev uI:E:=.not amq
abbrev FV:E:=cmp .lss bI (.int (-1))
abbrev OS:E:=cmp .lss bI (.int 400)
abbrev HP:E:=cmp .eql cj (.int 0)
abbrev ano:E:=.not abb
abbrev aNE:E:=.not alo
abbrev aGl:E:=.not aaf
abbrev aH4:E:=.not ac3
abbrev aI8:E:=.not Ug
abbrev Yp:E:=cmp .lss (.int 500) J0
abbrev as1:E:=.not Yp
abbrev apw:=[as1]
abbrev aE2:=aI8::apw
abbrev aWH:=aH4::aE2
abbrev aNI:=aGl::aWH
abbrev agZ:=aNE::aNI
abbrev ahU:=ano::agZ
abbrev aTu:E:=cmp .eql cj (.int 1)
abbrev YG:E:=.iff aTu HY
abbrev aV6:List E:=(.not aht)::agZ
abbrev aiL:=ano::aV6
abbrev Tc:E:=pr (.int 0) (.int 0)
abbrev iP:E:=fn 117 J0
abbrev jL:=[iP]
abbrev o5:E:=cmp .eql bl (.int 0)
abbrev qj:E:=.ar .add .i64 bl (.int 1)
abbrev aps:E:=cmp .lss qj (.int 0)
abbrev ajc:E:=.not aps
abbrev ma:E:=cmp .eql bl (.int 1)
abbrev dr:E:=var 16
abbrev Gx:E:=cmp .eql dr (.int 0)
abbrev qu:E:=pr J0 (pr bl dr)
abbrev JI:E:=cmp .eql dr (.int 1)
abbrev Ld:E:=cmp .eql dr (.int 2)
abbrev GX:E:=cmp .lss dr (.int 4)
abbrev aOE:E:=cmp .lss dr (.int 0)
abbrev abv:E:=.not aOE
abbrev aqx:=[abv,o5]
abbrev acw:=GX::aqx
abbrev aUO:E:=cmp .lss (.int 2) qj
abbrev Wi:E:=.not aUO
abbrev vK:=[GX,abv]
abbrev fY:E:=var 24
abbrev kj:E:=var 28
abbrev uO:E:=cmp .lss fY (fn 0 kj)
abbrev xh:E:=var 25
abbrev B5:E:=fn 104 (pr xh (pr J0 (pr bl (pr dr fY))))
abbrev Dj:E:=fn 109 (pr kj qu)
abbrev awy:E:=cmp .lss fY (.int 0)
abbrev SK:E:=.not awy
abbrev afN:=SK::acw
abbrev mO:E:=.iff kp (fn 108 J0)
abbrev aFE:E:=cmp .lss (.int 40) (fn 0 kj)
abbrev Q7:E:=.not aFE
abbrev XD:=[SK]
abbrev aK5:=Q7::XD
abbrev aiR:=uO::aK5
abbrev uR:E:=.ar .add .i64 fY (.int 1)
abbrev yu:E:=.ar .add .i64 dr (.int 1)
abbrev abp:=SK::vK
abbrev av7:E:=pr bl (pr dr (.int 0))
abbrev aVP:E:=pr J0 av7
abbrev aQW:E:=pr (var 17) aVP
abbrev aVc:E:=fn 104 aQW
abbrev arH:E:=cmp .lss (.int 4) dr
abbrev aCq:E:=.not arH
abbrev aF7:=[aCq]
abbrev abn:=aVc::aF7
abbrev atT:E:=pr J0 (pr qj Tc)
abbrev aJf:E:=pr (var 17) atT
abbrev adf:E:=fn 104 aJf
abbrev agy:=uO::XD
abbrev ZI:E:=cmp .lss (fn 7 (pr (.int 2) qj)) (fn 7 (pr (.int 2) bl))
abbrev ep:E:=var 32
abbrev zl:E:=cmp .lss ep (fn 9 (pr (fn 1 (pr J0 (.int 29))) (.int 5)))
abbrev Sb:E:=cmp .lss (fn 1 (pr (fn 1 (pr J0 (.int 29))) (fn 6 (pr (fn 8 (pr ep (.int 5))) (.int 3))))) (.int 0)
abbrev vZ:E:=var 33
abbrev GD:E:=var 34
abbrev ae9:E:=pr J0 ep
abbrev aGi:E:=pr GD ae9
abbrev afl:E:=fn 106 aGi
abbrev aLg:E:=pr vZ ae9
abbrev acq:E:=fn 105 aLg
abbrev aOo:E:=cmp .lss ep (.int 0)
abbrev aOJ:E:=.not aOo
abbrev Xk:=[aOJ]
abbrev ate:=acq::Xk
abbrev ajM:=afl::ate
abbrev aS2:=zl::Xk
abbrev Ii:=iP::aS2
abbrev pw:E:=.ar .add .i64 ep (.int 1)
abbrev Uj:E:=.not (fn 33 (pr xh (fn 1 (pr kj fY))))
abbrev aFQ:E:=pr bl (pr dr uR)
abbrev aOq:E:=pr J0 aFQ
abbrev aLa:E:=pr (fn 34 (pr xh (pr (fn 1 (pr kj fY)) bl))) aOq
abbrev YB:E:=fn 104 aLa
abbrev aMa:E:=cmp .lss (fn 7 (pr (.int 2) qj)) (.int 0)
abbrev akX:E:=.not aMa
abbrev arh:E:=cmp .lss (fn 9 (pr (fn 1 (pr J0 (.int 29))) (.int 5))) ep
abbrev aIz:E:=.not arh
abbrev aiF:=[aIz]
abbrev H8:E:=pr J0 (fn 9 (pr (fn 1 (pr J0 (.int 29))) (.int 5)))
abbrev avB:E:=.not (fn 33 (pr vZ (fn 1 (pr (fn 1 (pr J0 (.int 29))) (fn 6 (pr (fn 8 (pr ep (.int 5))) (.int 1)))))))
abbrev ag3:=iP::ajM
abbrev aHG:=avB::ag3
abbrev aVD:=Sb::aHG
abbrev Zj:=zl::aVD
abbrev Kx:E:=pr J0 pw
abbrev aRa:List E:=(.not Sb)::ag3
abbrev aff:=zl::aRa
abbrev bm:E:=var 40
abbrev iO:E:=cmp .lss bm (fn 9 (pr (fn 1 (pr J0 (.int 0))) (.int 12)))
abbrev ra:E:=cmp .lss (.int 0) bm
abbrev DP:=[iO,ra]
abbrev SB:=iP::DP
abbrev i6:E:=.ar .sub .i64 bm (.int 1)
abbrev Ph:E:=fn 107 (pr J0 bm)
abbrev nd:E:=var 41
abbrev O3:E:=fn 105 (pr nd H8)
abbrev yX:E:=.not ra
abbrev aDT:E:=cmp .lss bm (.int 0)
abbrev afJ:E:=.not aDT
abbrev abA:=[afJ]
abbrev OD:=yX::abA
abbrev pu:E:=.ar .add .i64 bm (.int 1)
abbrev aAq:E:=cmp .lss pu (.int 0)
abbrev aga:E:=.not aAq
abbrev oQ:E:=var 43
abbrev qF:E:=.iff oQ (fn 137 (pr (fn 1 (pr (fn 1 (pr J0 (.int 0))) (fn 6 (pr (fn 8 (pr bm (.int 12))) (.int 0))))) (pr (fn 1 (pr (fn 1 (pr J0 (.int 0))) (fn 6 (pr (fn 8 (pr bm (.int 12))) (.int 1))))) (pr (fn 1 (pr (fn 1 (pr J0 (.int 0))) (fn 6 (pr (fn 8 (pr bm (.int 12))) (.int 2))))) (pr (fn 1 (pr (fn 1 (pr J0 (.int 0))) (fn 6 (pr (fn 8 (pr bm (.int 12))) (.int 3))))) (pr (fn 1 (pr (fn 1 (pr J0 (.int 0))) (fn 6 (pr (fn 8 (pr bm (.int 12))) (.int 4))))) (pr (fn 1 (pr (fn 1 (pr J0 (.int 0))) (fn 6 (pr (fn 8 (pr bm (.int 12))) (.int 5))))) (pr (fn 1 (pr (fn 1 (pr J0 (.int 0))) (fn 6 (pr (fn 8 (pr bm (.int 12))) (.int 6))))) (pr (fn 1 (pr (fn 1 (pr J0 (.int 0))) (fn 6 (pr (fn 8 (pr bm (.int 12))) (.int 7))))) (fn 1 (pr (fn 1 (pr J0 (.int 0))) (fn 6 (pr (fn 8 (pr bm (.int 12))) (.int 8))))))))))))))
abbrev CZ:E:=var 42
abbrev HR:E:=cmp .eql (fn 32 (pr CZ (pr (fn 1 (pr (fn 1 (pr J0 (.int 0))) (fn 6 (pr (fn 8 (pr bm (.int 12))) (.int 0))))) (.int 0)))) (fn 1 (pr (fn 1 (pr J0 (.int 0))) (fn 6 (pr (fn 8 (pr bm (.int 12))) (.int 1)))))
abbrev ah8:E:=fn 106 (pr CZ H8)
abbrev Cp:=Ph::ah8::O3::abA
abbrev wn:E:=cmp .eql (fn 32 (pr nd (pr (fn 1 (pr (fn 1 (pr J0 (.int 0))) (fn 6 (pr (fn 8 (pr bm (.int 12))) (.int 0))))) (.int 0)))) (fn 1 (pr (fn 1 (pr J0 (.int 0))) (fn 6 (pr (fn 8 (pr bm (.int 12))) (.int 2)))))
abbrev anN:E:=.not (fn 33 (pr nd (fn 1 (pr (fn 1 (pr J0 (.int 0))) (fn 6 (pr (fn 8 (pr bm (.int 12))) (.int 0)))))))
abbrev Hz:E:=cmp .lss (fn 1 (pr (fn 1 (pr J0 (.int 0))) (fn 6 (pr (fn 8 (pr i6 (.int 12))) (.int 0))))) (fn 1 (pr (fn 1 (pr J0 (.int 0))) (fn 6 (pr (fn 8 (pr bm (.int 12))) (.int 0)))))
abbrev uq:=Ph::ah8::O3::afJ::jL
abbrev ae2:=iO::OD
abbrev aO9:E:=cmp .lss (fn 9 (pr (fn 1 (pr J0 (.int 0))) (.int 12))) pu
abbrev afT:E:=.not aO9
abbrev Ub:E:=.not (fn 33 (pr CZ (fn 1 (pr (fn 1 (pr J0 (.int 0))) (fn 6 (pr (fn 8 (pr bm (.int 12))) (.int 0)))))))
abbrev Ix:E:=fn 107 (pr J0 pu)
abbrev UA:E:=cmp .lss (fn 7 (pr (fn 9 (pr (fn 1 (pr J0 (.int 0))) (.int 12))) pu)) (fn 7 (pr (fn 9 (pr (fn 1 (pr J0 (.int 0))) (.int 12))) bm))
abbrev arR:E:=cmp .lss (fn 7 (pr (fn 9 (pr (fn 1 (pr J0 (.int 0))) (.int 12))) pu)) (.int 0)
abbrev VU:E:=.not arR
theorem aym:lM Try.prog (fun tb=>pt uk (run Try.prog (tb.plus [] [] I7.l) 3000 (.call 9 []) .nil (qJ 0 []) SX.one))=true:=by kernel_rfl
def Zo:Nl:=nc (aov good (facts:=[]) all_nil (anns:=[]) (gL [] rfl) (nats:=I7.l) I7.h aym) I7

def G0:=fa ((fn 101 (pr J0 (.int 0))))<|fun F=>by
 rfl
def G1:=fb (J2::J3::J6) A3<|af fun F p0 p1 p2=>by
 have:=fun h0 h1=>@nw F _ _ (fn 9 (pr J0 (.int 2))) h0 h1 (fn 1 _) (fn 1 (pr J0 (fn 6 (pr (fn 8 (pr J1 _)) _)))) rfl rfl
 try simp only[aa]at *
 grind
def G2:=fb (J2::zk::J12::J6) A3<|aj fun F p0 p1 p2 p3=>by
 have:=fun h0 h1=>@nw F _ _ (fn 9 (pr J0 (.int 2))) h0 h1 _ (fn 1 (pr J0 (fn 6 (pr (fn 8 (pr J1 _)) _)))) rfl rfl
 try simp only[aa]at *
 grind
def G3:=fb (J2::zk::EU::(.not Iq)::(.not PW)::(.not J16)::J6) A3<|bb fun F p0 p1 p2 p3 p4 p5 p6=>by
 have:=fun h0 h1=>@nw F _ _ (fn 9 (pr J0 (.int 2))) h0 h1 (fn 1 _) (fn 1 (pr J0 (fn 6 (pr (fn 8 (pr J1 _)) _)))) rfl rfl
 try simp only[aa]at *
 grind
def G4:=fb J21 Lj<|af fun F p0 p1 p2=>by
 try simp only[aa,ab]at *
 obtain⟨a2,ea2,qa2⟩:=ae ((E.I F J1)+(1))
 omega
def G5:=fb (J2::zk::EU::Iq::J6) A3<|aB fun F p0 p1 p2 p3 p4=>by
 have:=fun h0 h1=>@nw F _ _ (fn 9 (pr J0 (.int 2))) h0 h1 _ (fn 1 (pr J0 (fn 6 (pr (fn 8 (pr J1 _)) _)))) rfl rfl
 try simp only[aa]at *
 grind
def G6:=fb (J2::zk::J25::J6) A3<|aj fun F p0 p1 p2 p3=>by
 have:=fun h0 h1=>@nw F _ _ (fn 9 (pr J0 (.int 2))) h0 h1 (fn 1 _) (fn 1 (pr J0 (fn 6 (pr (fn 8 (pr J1 _)) _)))) rfl rfl
 try simp only[aa]at *
 grind
def G7:=fb ([(.not J2),J26]) (.iff kp J9)<|ak fun F p0 p1=>by
 have:=fun h1=>@ajf F _ _ (fn 9 (pr J0 (.int 2))) p1 h1
 try simp only[aa]at *
 grind
def G8:=fb (J2::J6) (.not (cmp .lss (fn 9 (pr J0 (.int 2))) fO))<|ak fun F p0 p1=>by
 try simp only[aa,ab]at *
 obtain⟨a2,ea2,qa2⟩:=ae ((E.I F J1)+(1))
 omega
def G9:=fb (J2::zk::EU::(.not Iq)::(.not PW)::J16::Yt) J30<|bE fun F p0 p1 p2 p3 p4 p5 p6 p7 p8 p9=>by
 have:=@am F J1 (.int 1)
 have:=fun h0 hm=>@FQ F _ fO _ p7 h0 hm (fn 1 _) (fn 1 _) rfl rfl
 try simp only[aa]at *
 grind
def G10:=fb (J2::zk::EU::(.not Iq)::PW::Yt) J30<|bh fun F p0 p1 p2 p3 p4 p5 p6 p7 p8=>by
 have:=@am F J1 (.int 1)
 have:=fun h0 hm=>@FQ F _ fO _ p6 h0 hm (fn 1 _) (fn 1 _) rfl rfl
 try simp only[aa]at *
 grind
def G11:=fb J21 (cmp .lss (fn 7 (pr (fn 9 (pr J0 (.int 2))) fO)) (fn 7 (pr (fn 9 (pr J0 (.int 2))) J1)))<|af fun F p0 p1 p2=>by
 try simp only[aa,ab]at *
 obtain⟨a2,ea2,qa2⟩:=ae ((E.I F J1)+(1))
 omega
def G12:=fb (J2::J6) (.not (cmp .lss (fn 7 (pr (fn 9 (pr J0 (.int 2))) fO)) (.int 0)))<|ak fun F p0 p1=>by
 try simp only[aa,ab]at *
 obtain⟨a2,ea2,qa2⟩:=ae ((E.I F J1)+(1))
 omega
def aw:List Fa:=[G0,G1,G2,G3,G4,G5,G6,G7,G8,G9,G10,G11,G12]
theorem aSQ:aN Try.prog (aZ (at1)):=sc aw (aMC) Zo ([]) (by kernel_rfl) (by kernel_rfl)
def Yh:Nl:=nc aSQ Zo
def G13:=fb ([J31]) mP<|aq fun F p0=>by
 have:=(@dt F ch bI J0 bM cj J1)
 try simp only[aa]at *
 grind
def G14:=fb ([kH,lu,XV]) mP<|af fun F p0 p1 p2=>by
 have:=(@dt F ch bI J0 bM cj J1)
 try simp only[aa]at *
 grind
def G15:=fb ([kH,lu,mf,J47]) mP<|aj fun F p0 p1 p2 p3=>by
 have:=(@dt F ch bI J0 bM cj J1)
 try simp only[aa]at *
 grind
def G16:=fb ([kH,lu,mf,oZ,J49]) mP<|aB fun F p0 p1 p2 p3 p4=>by
 have:=(@dt F ch bI J0 bM cj J1)
 try simp only[aa]at *
 grind
def G17:=fb (kH::lu::mf::oZ::va::zo::BB::gn::(.not Nn)::bM::Nc) Rl<|fV fun F p0 p1 p2 p3 p4 p5 p6 p7 p8 p9 ai ao aw=>by
 have:=An F (pr J1 (.int 2))
 have:=(@dt F ch bI J0 bM cj J1)
 try simp only[aa]at *
 grind
def G18:=fb (kH::lu::mf::oZ::va::zo::BB::gn::(.not Nn)::Nc) Rl<|fu fun F p0 p1 p2 p3 p4 p5 p6 p7 p8 p9 ai ao=>by
 have:=An F (pr J1 (.int 2))
 have:=(@dt F ch bI J0 bM cj J1)
 try simp only[aa]at *
 grind
def G19:=fb (kH::lu::mf::oZ::va::zo::BB::gn::Nn::J70) mP<|dH fun F p0 p1 p2 p3 p4 p5 p6 p7 p8 p9 ai=>by
 have:=(@dt F ch bI J0 bM cj J1)
 try simp only[aa]at *
 grind
def G20:=fb ([kH,lu,mf,oZ,va,zo,BB,EC,bM]) mP<|bh fun F p0 p1 p2 p3 p4 p5 p6 p7 p8=>by
 have:=(@dt F ch bI J0 bM cj J1)
 try simp only[aa]at *
 grind
def G21:=fb (kH::lu::mf::oZ::va::zo::BB::EC::(.not bM)::Nc) Rl<|fu fun F p0 p1 p2 p3 p4 p5 p6 p7 p8 p9 ai ao=>by
 have:=(@dt F ch bI J0 bM cj J1)
 try simp only[aa]at *
 grind
def G22:=fb ([kH,lu,mf,oZ,va,zo,J53]) mP<|bb fun F p0 p1 p2 p3 p4 p5 p6=>by
 have:=(@dt F ch bI J0 bM cj J1)
 try simp only[aa]at *
 grind
def G23:=fb ([kH,lu,mf,oZ,va,Xn]) mP<|be fun F p0 p1 p2 p3 p4 p5=>by
 have:=(@dt F ch bI J0 bM cj J1)
 try simp only[aa]at *
 grind
def G24:=fb ([kH,lu,mf,oZ,J67]) mP<|aB fun F p0 p1 p2 p3 p4=>by
 have:=(@dt F ch bI J0 bM cj J1)
 try simp only[aa]at *
 grind
def G25:=fb ([kH,lu,mf,J65]) mP<|aj fun F p0 p1 p2 p3=>by
 have:=(@dt F ch bI J0 bM cj J1)
 try simp only[aa]at *
 grind
def G26:=fb ([kH,J43]) mP<|ak fun F p0 p1=>by
 have:=(@dt F ch bI J0 bM cj J1)
 try simp only[aa]at *
 grind
def aD:List Fa:=[G13,G14,G15,G16,G17,G18,G19,G20,G21,G22,G23,G24,G25,G26]
theorem aM8:aN Try.prog (aZ (aDp)):=sc aD ([]) Yh ([]) (by kernel_rfl) (by kernel_rfl)
def abJ:Nl:=nc aM8 Yh
def G27:=fa ((fn 103 (pr J0 (pr kp (.int 0)))))<|fun F=>by
 rfl
def G28:=fb (pU::J80::(.not bM)::J6) (.iff J5 J84)<|aj fun F p0 p1 p2 p3=>by
 have:=fun h0 h1=>@I9 F _ _ (fn 9 (pr J0 (.int 5))) _ h0 h1 (fn _ (pr (fn 1 _) (pr (fn 1 _) (pr (fn 1 _) (pr (fn 1 _) (pr (fn 1 (pr J0 (fn 6 (pr (fn 8 (pr J1 _)) _)))) kp)))))) rfl
 try simp only[aa]at *
 grind
def G29:=fb J89 Lj<|af fun F p0 p1 p2=>by
 try simp only[aa,ab]at *
 obtain⟨a2,ea2,qa2⟩:=ae ((E.I F J1)+(1))
 omega
def G30:=fb ([(.not pU),J91]) (.iff kp J84)<|ak fun F p0 p1=>by
 have:=fun h1=>@Ky F _ _ (fn 9 (pr J0 (.int 5))) _ p1 h1
 try simp only[aa]at *
 grind
def G31:=fb (pU::J6) (.not (cmp .lss (fn 9 (pr J0 (.int 5))) fO))<|ak fun F p0 p1=>by
 try simp only[aa,ab]at *
 obtain⟨a2,ea2,qa2⟩:=ae ((E.I F J1)+(1))
 omega
def G32:=fb (pU::J80::bM::J91::RC) (fn 103 (pr J0 (pr kp fO)))<|be fun F p0 p1 p2 p3 p4 p5=>by
 have:=@am F J1 (.int 1)
 have:=fun h0 hm=>@Hi F _ _ fO _ p3 h0 hm (fn _ (pr (fn 1 _) (pr (fn 1 _) (pr (fn 1 _) (pr (fn 1 _) (pr (fn 1 _) _)))))) rfl
 try simp only[aa]at *
 grind
def G33:=fb J89 (cmp .lss (fn 7 (pr (fn 9 (pr J0 (.int 5))) fO)) (fn 7 (pr (fn 9 (pr J0 (.int 5))) J1)))<|af fun F p0 p1 p2=>by
 try simp only[aa,ab]at *
 obtain⟨a2,ea2,qa2⟩:=ae ((E.I F J1)+(1))
 omega
def G34:=fb (pU::J6) (.not (cmp .lss (fn 7 (pr (fn 9 (pr J0 (.int 5))) fO)) (.int 0)))<|ak fun F p0 p1=>by
 try simp only[aa,ab]at *
 obtain⟨a2,ea2,qa2⟩:=ae ((E.I F J1)+(1))
 omega
def aG:List Fa:=[G27,G28,G29,G30,G31,G32,G33,G34]
theorem aHI:aN Try.prog (aZ (YP 77 false)):=sc aG (TY 77 false) abJ ([]) (by kernel_rfl) (by kernel_rfl)
def VH:Nl:=nc aHI abJ
def G35:=fa ((fn 103 (pr J0 (pr rC (.int 0)))))<|fun F=>by
 rfl
def G36:=fb (pU::J99::(.not bM)::J6) (.iff J5 ank)<|aj fun F p0 p1 p2 p3=>by
 have:=fun h0 h1=>@I9 F _ _ (fn 9 (pr J0 (.int 5))) _ h0 h1 (fn _ (pr (fn 1 _) (pr (fn 1 _) (pr (fn 1 _) (pr (fn 1 _) (pr (fn 1 (pr J0 (fn 6 (pr (fn 8 (pr J1 _)) _)))) rC)))))) rfl
 try simp only[aa]at *
 grind
def G37:=fb ([(.not pU),agx]) (.iff kp ank)<|ak fun F p0 p1=>by
 have:=fun h1=>@Ky F _ _ (fn 9 (pr J0 (.int 5))) _ p1 h1
 try simp only[aa]at *
 grind
def G38:=fb (pU::J99::bM::agx::RC) (fn 103 (pr J0 (pr rC fO)))<|be fun F p0 p1 p2 p3 p4 p5=>by
 have:=@am F J1 (.int 1)
 have:=fun h0 hm=>@Hi F _ _ fO _ p3 h0 hm (fn _ (pr (fn 1 _) (pr (fn 1 _) (pr (fn 1 _) (pr (fn 1 _) (pr (fn 1 _) _)))))) rfl
 try simp only[aa]at *
 grind
def aH:List Fa:=[G35,G36,G29,G37,G31,G38,G33,G34]
theorem aw0:aN Try.prog (aZ (YP 79 true)):=sc aH (TY 79 true) VH ([]) (by kernel_rfl) (by kernel_rfl)
def ac5:Nl:=nc aw0 VH
def G39:=fa ((cmp .eql (fn 131 (pr J0 (pr bI (.int 0)))) (.int 0)))<|fun F=>by
 rfl
def G40:=fb (xc::YM::J6) (.iff J5 Uv)<|af fun F p0 p1 p2=>by
 have:=@awv F J0 bI J1
 try simp only[aa]at *
 grind
def G41:=fb akT Lj<|af fun F p0 p1 p2=>by
 try simp only[aa,ab]at *
 obtain⟨a3,ea3,qa3⟩:=ae ((E.I F J1)+(1))
 omega
def G42:=fb ([(.not xc),af1]) (.iff kp Uv)<|ak fun F p0 p1=>by
 have:=@aWT F J0 bI J1
 try simp only[aa]at *
 grind
def G43:=fb (xc::J6) (.not (cmp .lss (fn 0 J0) fO))<|ak fun F p0 p1=>by
 try simp only[aa,ab]at *
 obtain⟨a3,ea3,qa3⟩:=ae ((E.I F J1)+(1))
 omega
def G44:=fb (xc::(.not YM)::af1::US) (cmp .eql (fn 131 (pr J0 (pr bI fO))) (.int 0))<|aB fun F p0 p1 p2 p3 p4=>by
 have:=@am F J1 (.int 1)
 have:=@Og F J0 bI J1 fO
 try simp only[aa]at *
 grind
def G45:=fb akT (cmp .lss (fn 7 (pr (fn 0 J0) fO)) (fn 7 (pr (fn 0 J0) J1)))<|af fun F p0 p1 p2=>by
 try simp only[aa,ab]at *
 obtain⟨a3,ea3,qa3⟩:=ae ((E.I F J1)+(1))
 omega
def G46:=fb (xc::J6) (.not (cmp .lss (fn 7 (pr (fn 0 J0) fO)) (.int 0)))<|ak fun F p0 p1=>by
 try simp only[aa,ab]at *
 obtain⟨a3,ea3,qa3⟩:=ae ((E.I F J1)+(1))
 omega
def aT:List Fa:=[G39,G40,G41,G42,G43,G44,G45,G46]
theorem aAM:aN Try.prog (aZ (aCj)):=sc aT (apC) ac5 ([]) (by kernel_rfl) (by kernel_rfl)
def abl:Nl:=nc aAM ac5
def G47:=fb ([gn,abb]) gi<|ak fun F p0 p1=>by
 have:=@cv F J0 bI cj ch J1 bM d8 ef bl
 try simp only[aa]at *
 grind
def G48:=fb ([gn,J5,aht]) gi<|af fun F p0 p1 p2=>by
 have:=@cv F J0 bI cj ch J1 bM d8 ef bl
 try simp only[aa]at *
 grind
def W6:=fb ([gn,J5,mu,alo]) gi<|aj fun F p0 p1 p2 p3=>by
 have:=@cv F J0 bI cj ch J1 bM d8 ef bl
 try simp only[aa]at *
 grind
def G50:=fb ([gn,J5,mu,mV,aaf]) gi<|aB fun F p0 p1 p2 p3 p4=>by
 have:=@cv F J0 bI cj ch J1 bM d8 ef bl
 try simp only[aa]at *
 grind
def G51:=fb ([gn,J5,mu,mV,sP,ac3]) gi<|be fun F p0 p1 p2 p3 p4 p5=>by
 have:=@cv F J0 bI cj ch J1 bM d8 ef bl
 try simp only[aa]at *
 grind
def G52:=fb ([gn,J5,mu,mV,sP,CN,Ug]) gi<|bb fun F p0 p1 p2 p3 p4 p5 p6=>by
 have:=@cv F J0 bI cj ch J1 bM d8 ef bl
 try simp only[aa]at *
 grind
def G53:=fb (gn::J5::mu::mV::sP::CN::GQ::Jg::Tl::uI::(.not FV)::OS::(.not HP)::ahU) YG<|GL fun F p0 p1 p2 p3 p4 p5 p6 p7 p8 p9 ai ao aw aD aG aH aT aY bk=>by
 have:=@cv F J0 bI cj ch J1 bM d8 ef bl
 try simp only[aa]at *
 grind
def G54:=fb (gn::J5::mu::mV::sP::CN::GQ::Jg::Tl::uI::(.not FV)::OS::HP::ahU) (.iff rC HY)<|GL fun F p0 p1 p2 p3 p4 p5 p6 p7 p8 p9 ai ao aw aD aG aH aT aY bk=>by
 have:=@cv F J0 bI cj ch J1 bM d8 ef bl
 try simp only[aa]at *
 grind
def G55:=fb ([uI,(.not FV),(.not OS)]) gi<|af fun F p0 p1 p2=>by
 have:=@cv F J0 bI cj ch J1 bM d8 ef bl
 try simp only[aa]at *
 grind
def G56:=fb ([uI,FV]) gi<|ak fun F p0 p1=>by
 have:=@cv F J0 bI cj ch J1 bM d8 ef bl
 try simp only[aa]at *
 grind
def G57:=fb ([uI,Yp]) gi<|ak fun F p0 p1=>by
 have:=@cv F J0 bI cj ch J1 bM d8 ef bl
 try simp only[aa]at *
 grind
def Wp:=fb ([amq]) gi<|aq fun F p0=>by
 have:=@cv F J0 bI cj ch J1 bM d8 ef bl
 try simp only[aa]at *
 grind
def G59:=fb ([GQ,Jg,(.not Tl)]) gi<|af fun F p0 p1 p2=>by
 have:=@cv F J0 bI cj ch J1 bM d8 ef bl
 try simp only[aa]at *
 grind
def G60:=fb ([GQ,(.not Jg)]) gi<|ak fun F p0 p1=>by
 have:=@cv F J0 bI cj ch J1 bM d8 ef bl
 try simp only[aa]at *
 grind
def G61:=fb (gn::J5::mu::mV::sP::CN::RY::uI::(.not HP)::aiL) YG<|pQ fun F p0 p1 p2 p3 p4 p5 p6 p7 p8 p9 ai ao aw aD aG aH=>by
 have:=@cv F J0 bI cj ch J1 bM d8 ef bl
 try simp only[aa]at *
 grind
def G62:=fb (gn::J5::mu::mV::sP::CN::RY::uI::HP::aiL) (.iff rC HY)<|pQ fun F p0 p1 p2 p3 p4 p5 p6 p7 p8 p9 ai ao aw aD aG aH=>by
 have:=@cv F J0 bI cj ch J1 bM d8 ef bl
 try simp only[aa]at *
 grind
def G63:=fb ([gn,J5,mu,mV,sP,aaW]) gi<|be fun F p0 p1 p2 p3 p4 p5=>by
 have:=@cv F J0 bI cj ch J1 bM d8 ef bl
 try simp only[aa]at *
 grind
def G64:=fb ([gn,J5,mu,mV,ak1]) gi<|aB fun F p0 p1 p2 p3 p4=>by
 have:=@cv F J0 bI cj ch J1 bM d8 ef bl
 try simp only[aa]at *
 grind
def WC:=fb ([gn,J5,mu,O9]) gi<|aj fun F p0 p1 p2 p3=>by
 have:=@cv F J0 bI cj ch J1 bM d8 ef bl
 try simp only[aa]at *
 grind
def G66:=fb ([gn,J5,af9]) gi<|af fun F p0 p1 p2=>by
 have:=@cv F J0 bI cj ch J1 bM d8 ef bl
 try simp only[aa]at *
 grind
def G67:=fb ([gn,J4]) gi<|ak fun F p0 p1=>by
 have:=@cv F J0 bI cj ch J1 bM d8 ef bl
 try simp only[aa]at *
 grind
def YC:=fb ([EC]) gi<|aq fun F p0=>by
 have:=@cv F J0 bI cj ch J1 bM d8 ef bl
 try simp only[aa]at *
 grind
def aY:List Fa:=[G47,G48,W6,G50,G51,G52,G53,G54,G55,G56,G57,Wp,G59,G60,G61,G62,G63,G64,WC,G66,G67,YC]
theorem aAO:aN Try.prog (aZ (afi 106)):=sc aY ([]) abl ([]) (by kernel_rfl) (by kernel_rfl)
def ahB:Nl:=nc aAO abl
def G69:=fa ((fn 104 (pr (fn 10 (.int 0)) (pr J0 (pr (.int 0) Tc)))))<|fun F=>by
 rfl
def G70:=fb jL (.not (cmp .lss (.int 40) (fn 0 (fn 1 (pr J0 (.int 6))))))<|aq fun F p0=>by
 have:=ap p0
 try simp only[aa]at *
 omega
def G71:=fb jL (.not (cmp .lss (.int 40) (fn 0 (fn 1 (pr J0 (.int 7))))))<|aq fun F p0=>by
 have:=ap p0
 try simp only[aa]at *
 omega
def G72:=fb jL (.not (cmp .lss (.int 40) (fn 0 (fn 1 (pr J0 (.int 8))))))<|aq fun F p0=>by
 have:=ap p0
 try simp only[aa]at *
 omega
def G73:=fb jL (.not (cmp .lss (.int 40) (fn 0 (fn 1 (pr J0 (.int 9))))))<|aq fun F p0=>by
 have:=ap p0
 try simp only[aa]at *
 omega
def G74:=fb ([o5]) ajc<|aq fun F p0=>by
 try simp only[aa,ab]at *
 obtain⟨a1,ea1,qa1⟩:=ae ((E.I F bl)+(1))
 omega
def G75:=fb jL (.not (cmp .lss (.int 40) (fn 0 (fn 1 (pr J0 (.int 20))))))<|aq fun F p0=>by
 have:=ap p0
 try simp only[aa]at *
 omega
def G76:=fb jL (.not (cmp .lss (.int 40) (fn 0 (fn 1 (pr J0 (.int 21))))))<|aq fun F p0=>by
 have:=ap p0
 try simp only[aa]at *
 omega
def G77:=fb jL (.not (cmp .lss (.int 40) (fn 0 (fn 1 (pr J0 (.int 22))))))<|aq fun F p0=>by
 have:=ap p0
 try simp only[aa]at *
 omega
def G78:=fb jL (.not (cmp .lss (.int 40) (fn 0 (fn 1 (pr J0 (.int 23))))))<|aq fun F p0=>by
 have:=ap p0
 try simp only[aa]at *
 omega
def G79:=fb ([ma]) ajc<|aq fun F p0=>by
 try simp only[aa,ab]at *
 obtain⟨a1,ea1,qa1⟩:=ae ((E.I F bl)+(1))
 omega
def zz:=fb jL (.not (cmp .lss (.int 20) (fn 9 (pr (fn 1 (pr J0 (.int 29))) (.int 5)))))<|aq fun F p0=>by
 have:=ap p0
 try simp only[aa]at *
 omega
def G81:=fb ([Gx,iP,o5]) (fn 109 (pr (fn 1 (pr J0 (.int 6))) qu))<|af fun F p0 p1 p2=>by
 obtain⟨g0,g1⟩:E.I F bl=(0)/\E.I F dr=(0):=by
  try simp only[aa]at *
  omega
 exact gI 0 0 6 (by decide) (by rfl) g0 g1
def G82:=fb ([JI,iP,o5]) (fn 109 (pr (fn 1 (pr J0 (.int 7))) qu))<|af fun F p0 p1 p2=>by
 obtain⟨g0,g1⟩:E.I F bl=(0)/\E.I F dr=(1):=by
  try simp only[aa]at *
  omega
 exact gI 0 1 7 (by decide) (by rfl) g0 g1
def G83:=fb ([Ld,iP,o5]) (fn 109 (pr (fn 1 (pr J0 (.int 8))) qu))<|af fun F p0 p1 p2=>by
 obtain⟨g0,g1⟩:E.I F bl=(0)/\E.I F dr=(2):=by
  try simp only[aa]at *
  omega
 exact gI 0 2 8 (by decide) (by rfl) g0 g1
def G84:=fb ((.not Gx)::(.not JI)::(.not Ld)::iP::acw) (fn 109 (pr (fn 1 (pr J0 (.int 9))) qu))<|bb fun F p0 p1 p2 p3 p4 p5 p6=>by
 obtain⟨g0,g1⟩:E.I F bl=(0)/\E.I F dr=(3):=by
  try simp only[aa]at *
  omega
 exact gI 0 3 9 (by decide) (by rfl) g0 g1
def G85:=fb ([o5]) Wi<|aq fun F p0=>by
 try simp only[aa,ab]at *
 obtain⟨a1,ea1,qa1⟩:=ae ((E.I F bl)+(1))
 omega
def G86:=fb (ma::Gx::jL) (fn 109 (pr (fn 1 (pr J0 (.int 20))) qu))<|af fun F p0 p1 p2=>by
 obtain⟨g0,g1⟩:E.I F bl=(1)/\E.I F dr=(0):=by
  try simp only[aa]at *
  omega
 exact gI 1 0 20 (by decide) (by rfl) g0 g1
def G87:=fb (ma::JI::jL) (fn 109 (pr (fn 1 (pr J0 (.int 21))) qu))<|af fun F p0 p1 p2=>by
 obtain⟨g0,g1⟩:E.I F bl=(1)/\E.I F dr=(1):=by
  try simp only[aa]at *
  omega
 exact gI 1 1 21 (by decide) (by rfl) g0 g1
def G88:=fb (ma::Ld::jL) (fn 109 (pr (fn 1 (pr J0 (.int 22))) qu))<|af fun F p0 p1 p2=>by
 obtain⟨g0,g1⟩:E.I F bl=(1)/\E.I F dr=(2):=by
  try simp only[aa]at *
  omega
 exact gI 1 2 22 (by decide) (by rfl) g0 g1
def G89:=fb (ma::(.not Gx)::(.not JI)::(.not Ld)::iP::vK) (fn 109 (pr (fn 1 (pr J0 (.int 23))) qu))<|bb fun F p0 p1 p2 p3 p4 p5 p6=>by
 obtain⟨g0,g1⟩:E.I F bl=(1)/\E.I F dr=(3):=by
  try simp only[aa]at *
  omega
 exact gI 1 3 23 (by decide) (by rfl) g0 g1
def G90:=fb ([ma]) Wi<|aq fun F p0=>by
 try simp only[aa,ab]at *
 obtain⟨a1,ea1,qa1⟩:=ae ((E.I F bl)+(1))
 omega
def G91:=fb ([(.not (cmp .lss bl (.int 2))),iP,(fn 104 (pr (var 9) (pr J0 (pr bl Tc)))),(.not (cmp .lss (.int 2) bl))]) (fn 105 (pr (var 9) (pr J0 (.int 0))))<|aj fun F p0 p1 p2 p3=>by
 have g0:E.I F bl=(2):=by
  try simp only[aa]at *
  omega
 have g1:E.I F _=E.I F (.int 0):=rfl;have g2:E.I F _=E.I F (.int 0):=rfl;have g3:E.I F _=E.I F (.int 0):=rfl;exact axA p2 g0 g1 g2 g3
def G92:=fb (uO::(fn 33 (pr xh (fn 1 (pr kj fY))))::B5::Dj::afN) mO<|ba fun F p0 p1 p2 p3 p4 p5 p6 p7=>by
 have:=@GJ F _ _ _ (fn 6 (pr fY (.int 1))) _ _ _ p2 p3
 try simp only[aa]at *
 grind
def G93:=fb aiR (.not (cmp .lss uR (.int 0)))<|af fun F p0 p1 p2=>by
 try simp only[aa,ab]at *
 obtain⟨a2,ea2,qa2⟩:=ae ((E.I F fY)+(1))
 omega
def G94:=fb vK (.not (cmp .lss yu (.int 0)))<|ak fun F p0 p1=>by
 try simp only[aa,ab]at *
 obtain⟨a1,ea1,qa1⟩:=ae ((E.I F dr)+(1))
 omega
def G95:=fb (ma::uO::(fn 33 (pr xh (fn 1 (pr kj fY))))::B5::Dj::abp) mO<|ba fun F p0 p1 p2 p3 p4 p5 p6 p7=>by
 have:=@GJ F _ _ _ (fn 6 (pr fY (.int 1))) _ _ _ p3 p4
 try simp only[aa]at *
 grind
def G96:=fb ((.not GX)::iP::o5::abn) adf<|aB fun F p0 p1 p2 p3 p4=>by
 obtain⟨g0,g1,g2,g3,g4⟩:(0)<=E.I F bl/\(0)<=E.I F dr/\(0)<=E.I F qj/\(0)<=(0)/\E.I F (fn 6 (pr (fn 8 (pr qj (.int 4))) (.int 0)))=E.I F (fn 6 (pr (fn 8 (pr bl (.int 4))) dr)):=by
  try simp only[aa,ab]at *
  obtain⟨a2,ea2,qa2⟩:=ae ((E.I F bl)+(1))
  omega
 have g5:E.I F _=E.I F (.int 0):=rfl;exact ace p3 (by omega) (by omega) (by omega) (by simp_all) g4 g5
def G97:=fb (ma::(.not GX)::iP::abn) adf<|aB fun F p0 p1 p2 p3 p4=>by
 obtain⟨g0,g1,g2,g3,g4⟩:(0)<=E.I F bl/\(0)<=E.I F dr/\(0)<=E.I F qj/\(0)<=(0)/\E.I F (fn 6 (pr (fn 8 (pr qj (.int 4))) (.int 0)))=E.I F (fn 6 (pr (fn 8 (pr bl (.int 4))) dr)):=by
  try simp only[aa,ab]at *
  obtain⟨a2,ea2,qa2⟩:=ae ((E.I F bl)+(1))
  omega
 have g5:E.I F _=E.I F (.int 0):=rfl;exact ace p3 (by omega) (by omega) (by omega) (by simp_all) g4 g5
def G98:=fa ((fn 106 (pr (fn 10 (.int 0)) (pr J0 (.int 0)))))<|fun F=>by
 rfl
def G99:=fb agy (.not (cmp .lss (fn 0 kj) uR))<|ak fun F p0 p1=>by
 try simp only[aa,ab]at *
 obtain⟨a2,ea2,qa2⟩:=ae ((E.I F fY)+(1))
 omega
def aQT:=fb vK (.not (cmp .lss (.int 4) yu))<|ak fun F p0 p1=>by
 try simp only[aa,ab]at *
 obtain⟨a1,ea1,qa1⟩:=ae ((E.I F dr)+(1))
 omega
def anj:=fb ([o5]) ZI<|aq fun F p0=>by
 try simp only[aa,ab]at *
 obtain⟨a1,ea1,qa1⟩:=ae ((E.I F bl)+(1))
 omega
def aml:=fb ([ma]) ZI<|aq fun F p0=>by
 try simp only[aa,ab]at *
 obtain⟨a1,ea1,qa1⟩:=ae ((E.I F bl)+(1))
 omega
def aER:=fb (zl::Sb::(fn 33 (pr vZ (fn 1 (pr (fn 1 (pr J0 (.int 29))) (fn 6 (pr (fn 8 (pr ep (.int 5))) (.int 1)))))))::ajM) mO<|be fun F p0 p1 p2 p3 p4 p5=>by
 have:=fun a b hn=>@zD F (fn 6 (pr ep (.int 1))) _ _ _ _ p4 p3 a b hn _ _ _ _ rfl rfl rfl rfl
 try simp only[aa]at *
 grind
def aUe:=fb Ii (.not (cmp .lss pw (.int 0)))<|af fun F p0 p1 p2=>by
 have:=ap p0
 try simp only[aa,ab]at *
 obtain⟨a2,ea2,qa2⟩:=ae ((E.I F ep)+(1))
 omega
def NL:=fb jL (.not (cmp .lss (.int 30) (fn 9 (pr (fn 1 (pr J0 (.int 0))) (.int 12)))))<|aq fun F p0=>by
 have:=ap p0
 try simp only[aa]at *
 omega
def aUk:=fb (uO::Uj::B5::Dj::Q7::afN) YB<|bh fun F p0 p1 p2 p3 p4 p5 p6 p7 p8=>by
 have:=@am F fY (.int 1)
 have:=@GJ F _ _ _ uR _ _ _ p2 p3
 try simp only[aa]at *
 grind
def aIs:=fb ((.not uO)::iP::B5::Dj::(.not (cmp .lss (fn 0 kj) fY))::vK) (fn 104 (pr xh (pr J0 (pr bl (pr yu (.int 0))))))<|bb fun F p0 p1 p2 p3 p4 p5 p6=>by
 obtain⟨g0,g1,g2⟩:(0)<=E.I F dr/\E.I F fY=E.I F (fn 0 kj)/\E.I F yu=E.I F (fn 6 (pr dr (.int 1))):=by
  try simp only[aa,ab]at *
  obtain⟨a3,ea3,qa3⟩:=ae ((E.I F dr)+(1))
  omega
 have g3:E.I F _=E.I F (.int 0):=rfl;exact atn p2 p3 (by omega) g1 g2 g3
def aqA:=fb (ma::uO::Uj::B5::Dj::Q7::abp) YB<|bh fun F p0 p1 p2 p3 p4 p5 p6 p7 p8=>by
 have:=@am F fY (.int 1)
 have:=@GJ F _ _ _ uR _ _ _ p3 p4
 try simp only[aa]at *
 grind
def aag:=fb ([o5]) akX<|aq fun F p0=>by
 try simp only[aa,ab]at *
 obtain⟨a1,ea1,qa1⟩:=ae ((E.I F bl)+(1))
 omega
def XP:=fb ([ma]) akX<|aq fun F p0=>by
 try simp only[aa,ab]at *
 obtain⟨a1,ea1,qa1⟩:=ae ((E.I F bl)+(1))
 omega
def ap3:=fb Ii (.not (cmp .lss (fn 9 (pr (fn 1 (pr J0 (.int 29))) (.int 5))) pw))<|af fun F p0 p1 p2=>by
 try simp only[aa,ab]at *
 obtain⟨a2,ea2,qa2⟩:=ae ((E.I F ep)+(1))
 omega
def as6:=fb ((.not zl)::iP::acq::aiF) (fn 105 (pr vZ H8))<|aj fun F p0 p1 p2 p3=>by
 have g0:E.I F (fn 9 (pr (fn 1 (pr J0 (.int 29))) (.int 5)))=E.I F ep:=by
  try simp only[aa]at *
  omega
 grind[aV1]
def aQN:=fb aiR (cmp .lss (fn 7 (pr (fn 0 kj) uR)) (fn 7 (pr (fn 0 kj) fY)))<|af fun F p0 p1 p2=>by
 try simp only[aa,ab]at *
 obtain⟨a2,ea2,qa2⟩:=ae ((E.I F fY)+(1))
 omega
def auh:=fb vK (cmp .lss (fn 7 (pr (.int 4) yu)) (fn 7 (pr (.int 4) dr)))<|ak fun F p0 p1=>by
 try simp only[aa,ab]at *
 obtain⟨a1,ea1,qa1⟩:=ae ((E.I F dr)+(1))
 omega
def aMv:=fb Zj (fn 105 (pr (fn 34 (pr vZ (pr (fn 1 (pr (fn 1 (pr J0 (.int 29))) (fn 6 (pr (fn 8 (pr ep (.int 5))) (.int 1))))) (fn 1 (pr (fn 1 (pr J0 (.int 29))) (fn 6 (pr (fn 8 (pr ep (.int 5))) (.int 0)))))))) Kx))<|bb fun F p0 p1 p2 p3 p4 p5 p6=>by
 have:=ap p3
 have:=@am F ep (.int 1)
 have:=fun a b hn=>@zD F pw _ _ _ _ p5 p4 a b hn _ _ _ _ rfl rfl rfl rfl
 try simp only[aa]at *
 grind
def aL8:=fb aff (fn 105 (pr vZ Kx))<|be fun F p0 p1 p2 p3 p4 p5=>by
 have:=ap p2
 have:=@am F ep (.int 1)
 have:=fun a b hn=>@zD F pw _ _ _ _ p4 p3 a b hn _ _ _ _ rfl rfl rfl rfl
 try simp only[aa]at *
 grind
def aJr:=fb ((.not zl)::iP::afl::aiF) (fn 106 (pr GD H8))<|aj fun F p0 p1 p2 p3=>by
 have g0:E.I F (fn 9 (pr (fn 1 (pr J0 (.int 29))) (.int 5)))=E.I F ep:=by
  try simp only[aa]at *
  omega
 grind[aHr]
def aoV:=fb agy (.not (cmp .lss (fn 7 (pr (fn 0 kj) uR)) (.int 0)))<|ak fun F p0 p1=>by
 try simp only[aa,ab]at *
 obtain⟨a2,ea2,qa2⟩:=ae ((E.I F fY)+(1))
 omega
def aIt:=fb vK (.not (cmp .lss (fn 7 (pr (.int 4) yu)) (.int 0)))<|ak fun F p0 p1=>by
 try simp only[aa,ab]at *
 obtain⟨a1,ea1,qa1⟩:=ae ((E.I F dr)+(1))
 omega
def aOU:=fb Zj (fn 106 (pr (fn 34 (pr GD (pr (fn 1 (pr (fn 1 (pr J0 (.int 29))) (fn 6 (pr (fn 8 (pr ep (.int 5))) (.int 1))))) (fn 1 (pr (fn 1 (pr J0 (.int 29))) (fn 6 (pr (fn 8 (pr ep (.int 5))) (.int 2)))))))) Kx))<|bb fun F p0 p1 p2 p3 p4 p5 p6=>by
 have:=ap p3
 have:=@am F ep (.int 1)
 have:=fun a b hn=>@zD F pw _ _ _ _ p5 p4 a b hn _ _ _ _ rfl rfl rfl rfl
 try simp only[aa]at *
 grind
def aLw:=fb aff (fn 106 (pr GD Kx))<|be fun F p0 p1 p2 p3 p4 p5=>by
 have:=ap p2
 have:=@am F ep (.int 1)
 have:=fun a b hn=>@zD F pw _ _ _ _ p4 p3 a b hn _ _ _ _ rfl rfl rfl rfl
 try simp only[aa]at *
 grind
def aQM:=fa ((fn 107 (pr J0 (.int 0))))<|fun F=>by
 rfl
def aFd:=fb Ii (cmp .lss (fn 7 (pr (fn 9 (pr (fn 1 (pr J0 (.int 29))) (.int 5))) pw)) (fn 7 (pr (fn 9 (pr (fn 1 (pr J0 (.int 29))) (.int 5))) ep)))<|af fun F p0 p1 p2=>by
 have:=ap p0
 try simp only[aa,ab]at *
 obtain⟨a2,ea2,qa2⟩:=ae ((E.I F ep)+(1))
 omega
def aXs:=fb SB (.not (cmp .lss i6 (.int 0)))<|af fun F p0 p1 p2=>by
 have:=ap p0
 try simp only[aa,ab]at *
 obtain⟨a2,ea2,qa2⟩:=ae ((E.I F bm)-(1))
 omega
def aVO:=fb ([(.not iO),Ph,O3,(.not (cmp .lss (fn 9 (pr (fn 1 (pr J0 (.int 0))) (.int 12))) bm))]) (.iff (cmp .eql (fn 0 nd) (fn 9 (pr (fn 1 (pr J0 (.int 0))) (.int 12)))) (fn 108 J0))<|aj fun F p0 p1 p2 p3=>by
 have:=@aLP F _ _ _ p2 p1
 try simp only[aa]at *
 grind
def aJZ:=fb Ii (.not (cmp .lss (fn 7 (pr (fn 9 (pr (fn 1 (pr J0 (.int 29))) (.int 5))) pw)) (.int 0)))<|af fun F p0 p1 p2=>by
 try simp only[aa,ab]at *
 obtain⟨a2,ea2,qa2⟩:=ae ((E.I F ep)+(1))
 omega
def aSz:=fb DP (cmp .lss i6 (fn 9 (pr (fn 1 (pr J0 (.int 0))) (.int 12))))<|ak fun F p0 p1=>by
 try simp only[aa,ab]at *
 obtain⟨a2,ea2,qa2⟩:=ae ((E.I F bm)-(1))
 omega
def aYf:=fb OD aga<|ak fun F p0 p1=>by
 try simp only[aa,ab]at *
 obtain⟨a1,ea1,qa1⟩:=ae ((E.I F bm)+(1))
 omega
def aqZ:=fb (iO::qF::oQ::yX::(fn 33 (pr nd (fn 1 (pr (fn 1 (pr J0 (.int 0))) (fn 6 (pr (fn 8 (pr bm (.int 12))) (.int 0)))))))::(fn 33 (pr CZ (fn 1 (pr (fn 1 (pr J0 (.int 0))) (fn 6 (pr (fn 8 (pr bm (.int 12))) (.int 0)))))))::(.not HR)::Cp) mO<|dH fun F p0 p1 p2 p3 p4 p5 p6 p7 p8 p9 ai=>by
 have:=@lL F _ (fn 6 (pr bm (.int 1))) _ _ _ p9 p8 p7 i6 _ _ _ _ _ _ _ _ _ rfl rfl rfl rfl rfl rfl rfl rfl rfl
 try simp only[aa]at *
 grind
def aNt:=fb (iO::yX::(.not wn)::Cp) mO<|bb fun F p0 p1 p2 p3 p4 p5 p6=>by
 have:=@lL F _ (fn 6 (pr bm (.int 1))) _ _ _ p5 p4 p3 i6 _ _ _ _ _ _ _ _ _ rfl rfl rfl rfl rfl rfl rfl rfl rfl
 try simp only[aa]at *
 grind
def aUJ:=fb (iO::yX::anN::Cp) mO<|bb fun F p0 p1 p2 p3 p4 p5 p6=>by
 have:=@lL F _ (fn 6 (pr bm (.int 1))) _ _ _ p5 p4 p3 i6 _ _ _ _ _ _ _ _ _ rfl rfl rfl rfl rfl rfl rfl rfl rfl
 try simp only[aa]at *
 grind
def ayu:=fb SB aga<|af fun F p0 p1 p2=>by
 have:=ap p0
 try simp only[aa,ab]at *
 obtain⟨a2,ea2,qa2⟩:=ae ((E.I F bm)+(1))
 omega
def aqC:=fb (iO::qF::oQ::ra::Hz::(fn 33 (pr nd (fn 1 (pr (fn 1 (pr J0 (.int 0))) (fn 6 (pr (fn 8 (pr bm (.int 12))) (.int 0)))))))::(fn 33 (pr CZ (fn 1 (pr (fn 1 (pr J0 (.int 0))) (fn 6 (pr (fn 8 (pr bm (.int 12))) (.int 0)))))))::(.not HR)::uq) mO<|fV fun F p0 p1 p2 p3 p4 p5 p6 p7 p8 p9 ai ao aw=>by
 have:=ap aw
 have:=@aK F bm (.int 1)
 have:=@lL F _ (fn 6 (pr bm (.int 1))) _ _ _ ai p9 p8 i6 _ _ _ _ _ _ _ _ _ rfl rfl rfl rfl rfl rfl rfl rfl rfl
 try simp only[aa]at *
 grind
def az3:=fb (iO::ra::(.not wn)::uq) mO<|ba fun F p0 p1 p2 p3 p4 p5 p6 p7=>by
 have:=ap p7
 have:=@aK F bm (.int 1)
 have:=@lL F _ (fn 6 (pr bm (.int 1))) _ _ _ p5 p4 p3 i6 _ _ _ _ _ _ _ _ _ rfl rfl rfl rfl rfl rfl rfl rfl rfl
 try simp only[aa]at *
 grind
def ar6:=fb (iO::ra::anN::uq) mO<|ba fun F p0 p1 p2 p3 p4 p5 p6 p7=>by
 have:=ap p7
 have:=@aK F bm (.int 1)
 have:=@lL F _ (fn 6 (pr bm (.int 1))) _ _ _ p5 p4 p3 i6 _ _ _ _ _ _ _ _ _ rfl rfl rfl rfl rfl rfl rfl rfl rfl
 try simp only[aa]at *
 grind
def aqy:=fb (iO::qF::oQ::ra::(.not Hz)::uq) mO<|bE fun F p0 p1 p2 p3 p4 p5 p6 p7 p8 p9=>by
 have:=ap p9
 have:=@aK F bm (.int 1)
 have:=@lL F _ (fn 6 (pr bm (.int 1))) _ _ _ p7 p6 p5 i6 _ _ _ _ _ _ _ _ _ rfl rfl rfl rfl rfl rfl rfl rfl rfl
 try simp only[aa]at *
 grind
def aow:=fb (iO::qF::(.not oQ)::uq) mO<|ba fun F p0 p1 p2 p3 p4 p5 p6 p7=>by
 have:=ap p7
 have:=@aK F bm (.int 1)
 have:=@lL F _ (fn 6 (pr bm (.int 1))) _ _ _ p5 p4 p3 i6 _ _ _ _ _ _ _ _ _ rfl rfl rfl rfl rfl rfl rfl rfl rfl
 try simp only[aa]at *
 grind
def aEl:=fb ae2 afT<|af fun F p0 p1 p2=>by
 try simp only[aa,ab]at *
 obtain⟨a2,ea2,qa2⟩:=ae ((E.I F bm)+(1))
 omega
def ar5:=fb DP afT<|ak fun F p0 p1=>by
 try simp only[aa,ab]at *
 obtain⟨a2,ea2,qa2⟩:=ae ((E.I F bm)+(1))
 omega
def auS:=fb (iO::qF::oQ::yX::(fn 33 (pr nd (fn 1 (pr (fn 1 (pr J0 (.int 0))) (fn 6 (pr (fn 8 (pr bm (.int 12))) (.int 0)))))))::wn::Ub::Cp) Ix<|dH fun F p0 p1 p2 p3 p4 p5 p6 p7 p8 p9 ai=>by
 have:=@am F bm (.int 1)
 have:=@lL F _ pu _ _ _ p9 p8 p7 i6 _ _ _ _ _ _ _ _ _ rfl rfl rfl rfl rfl rfl rfl rfl rfl
 try simp only[aa]at *
 grind
def apm:=fb (iO::qF::oQ::yX::(fn 33 (pr nd (fn 1 (pr (fn 1 (pr J0 (.int 0))) (fn 6 (pr (fn 8 (pr bm (.int 12))) (.int 0)))))))::wn::HR::Cp) Ix<|dH fun F p0 p1 p2 p3 p4 p5 p6 p7 p8 p9 ai=>by
 have:=@am F bm (.int 1)
 have:=@lL F _ pu _ _ _ p9 p8 p7 i6 _ _ _ _ _ _ _ _ _ rfl rfl rfl rfl rfl rfl rfl rfl rfl
 try simp only[aa]at *
 grind
def ayP:=fb (iO::qF::oQ::ra::Hz::(fn 33 (pr nd (fn 1 (pr (fn 1 (pr J0 (.int 0))) (fn 6 (pr (fn 8 (pr bm (.int 12))) (.int 0)))))))::wn::Ub::uq) Ix<|fV fun F p0 p1 p2 p3 p4 p5 p6 p7 p8 p9 ai ao aw=>by
 have:=ap aw
 have:=@aK F bm (.int 1)
 have:=@am F bm (.int 1)
 have:=@lL F _ pu _ _ _ ai p9 p8 i6 _ _ _ _ _ _ _ _ _ rfl rfl rfl rfl rfl rfl rfl rfl rfl
 try simp only[aa]at *
 grind
def aAx:=fb (iO::qF::oQ::ra::Hz::(fn 33 (pr nd (fn 1 (pr (fn 1 (pr J0 (.int 0))) (fn 6 (pr (fn 8 (pr bm (.int 12))) (.int 0)))))))::wn::HR::uq) Ix<|fV fun F p0 p1 p2 p3 p4 p5 p6 p7 p8 p9 ai ao aw=>by
 have:=ap aw
 have:=@aK F bm (.int 1)
 have:=@am F bm (.int 1)
 have:=@lL F _ pu _ _ _ ai p9 p8 i6 _ _ _ _ _ _ _ _ _ rfl rfl rfl rfl rfl rfl rfl rfl rfl
 try simp only[aa]at *
 grind
def apH:=fb OD UA<|ak fun F p0 p1=>by
 try simp only[aa,ab]at *
 obtain⟨a2,ea2,qa2⟩:=ae ((E.I F bm)+(1))
 omega
def aT8:=fb SB UA<|af fun F p0 p1 p2=>by
 have:=ap p0
 try simp only[aa,ab]at *
 obtain⟨a2,ea2,qa2⟩:=ae ((E.I F bm)+(1))
 omega
def aFc:=fb ae2 VU<|af fun F p0 p1 p2=>by
 try simp only[aa,ab]at *
 obtain⟨a2,ea2,qa2⟩:=ae ((E.I F bm)+(1))
 omega
def aSV:=fb DP VU<|ak fun F p0 p1=>by
 try simp only[aa,ab]at *
 obtain⟨a2,ea2,qa2⟩:=ae ((E.I F bm)+(1))
 omega
def bk:List Fa:=[G69,G70,G71,G72,G73,G74,G75,G76,G77,G78,G79,zz,G81,G82,G83,G84,G85,G86,G87,G88,G89,G90,G91,G92,G93,G94,G95,G96,G97,G98,G99,aQT,anj,aml,aER,aUe,NL,aUk,aIs,aqA,aag,XP,ap3,as6,aQN,auh,aMv,aL8,aJr,aoV,aIt,aOU,aLw,aQM,aFd,aXs,aVO,aJZ,aSz,aYf,aqZ,aNt,aUJ,ayu,aqC,az3,ar6,aqy,aow,aEl,ar5,auS,apm,ayP,aAx,apH,aT8,aFc,aSV]
theorem ayY:aN Try.prog (aZ (aP5)):=sc bk (azB) ahB ([]) (by kernel_rfl) (by kernel_rfl)
def UZ:Nl:=nc ayY ahB
end
end Go.Proofs.Ytnnbmcfabojjjaa.payPlans
