/-
  PayPlans: contracts of functions, part 6.
-/
import Derived.Test.YtnnbmcfabojjjaaRows
import Derived.Test.YtnnbmcfabojjjaaNat
import Derived.WalkKit
import Derived.ProofKit
import Derived.OpenShut
import Derived.ChangeOld
import Derived.Below
import Derived.KernelRfl
import Derived.Lib.SmallJoins
import Derived.Laws.IdiomArrays
import Derived.Test.YtnnbmcfabojjjaaPayPlansParte
namespace Go.Proofs.Ytnnbmcfabojjjaa.payPlans
open Go.ChangeShapes Go.WideShapes Go.ChangeAt Go.RowKit
open Go.SX
open Go.SX.E (fn pr cmp var)
set_option linter.unusedVariables false
set_option linter.unusedSimpArgs false
set_option maxRecDepth 100000
noncomputable section
abbrev K0:E:=var 11
abbrev K1:E:=var 12
abbrev K2:E:=fn 156 (pr K0 K1)
abbrev K3:E:=var 41
abbrev K4:E:=var 42
abbrev K5:E:=pr K3 K4
abbrev K6:E:=fn 157 K5
abbrev K7:E:=var 44
abbrev K8:E:=cmp .lss K7 K4
abbrev K9:E:=cmp .lss K7 (.int 0)
abbrev K10:E:=.not K9
abbrev HM:=[K10]
abbrev Ay:E:=var 14
abbrev K13:E:=cmp .eql Ay (fn 9 (pr K1 (.int 2)))
abbrev K14:=[K13]
abbrev jk:E:=var 17
abbrev K16:E:=cmp .eql jk (fn 9 (pr K1 (.int 2)))
abbrev K17:=[K16]
abbrev K18:E:=cmp .lss (.int 3) K4
abbrev K19:E:=.not K18
abbrev K20:=K19::HM
abbrev K21:=K8::K20
abbrev DL:E:=.ar .add .i64 K7 (.int 1)
abbrev K23:=K2::K14
abbrev ZJ:=K2::K17
abbrev K25:E:=.not (cmp .lss K4 K7)
abbrev K26:=K25::HM
abbrev K27:=K19::K26
abbrev K28:=K8::K27
abbrev K29:=K6::HM
abbrev bG:E:=var 2
abbrev Gp:E:=cmp .lss bG (.int 0)
abbrev au:E:=var 0
abbrev K33:E:=cmp .eql (fn 141 (pr au bG)) (.int 0)
abbrev K34:E:=pr au (fn 9 (pr au (.int 14)))
abbrev K35:E:=fn 155 K34
abbrev gW:E:=.not Gp
abbrev Bh:E:=cmp .lss bG (fn 9 (pr au (.int 14)))
abbrev Xo:E:=cmp .eql (fn 142 (pr au bG)) (.int 0)
abbrev aJ:E:=var 1
abbrev pT:E:=fn 117 aJ
abbrev b8:E:=var 19
abbrev eH:E:=cmp .lss b8 (fn 9 (pr (fn 1 (pr aJ (.int 0))) (.int 12)))
abbrev vn:E:=.not (cmp .lss b8 (.int 0))
abbrev MR:=[eH,vn]
abbrev NO:=pT::MR
abbrev cP:E:=.ar .add .i64 b8 (.int 1)
abbrev K47:E:=cmp .lss (fn 9 (pr (fn 1 (pr aJ (.int 0))) (.int 12))) b8
abbrev Py:E:=.not K47
abbrev K49:E:=cmp .lss b8 jk
abbrev K50:E:=.not K49
abbrev K51:=[K50]
abbrev K52:E:=pr bG b8
abbrev K53:E:=pr aJ K52
abbrev K54:E:=pr au K53
abbrev GW:E:=fn 143 (pr (fn 10 (.int 0)) K54)
abbrev K56:E:=pr au (pr aJ (pr bG (fn 9 (pr (fn 1 (pr aJ (.int 0))) (.int 12)))))
abbrev aC:E:=var 16
abbrev K58:E:=cmp .eql (fn 0 aC) (fn 8 (pr jk (.int 2)))
abbrev K59:E:=pr aC K54
abbrev K60:E:=fn 143 K59
abbrev da:E:=var 27
abbrev gz:E:=cmp .eql da (fn 142 (pr au (fn 1 (pr (fn 1 (pr aJ (.int 0))) (fn 6 (pr (fn 8 (pr b8 (.int 12))) (.int 1)))))))
abbrev og:E:=cmp .eql (var 21) (fn 141 (pr au (fn 1 (pr (fn 1 (pr aJ (.int 0))) (fn 6 (pr (fn 8 (pr b8 (.int 12))) (.int 1)))))))
abbrev jf:E:=cmp .eql (fn 1 (pr (fn 1 (pr aJ (.int 0))) (fn 6 (pr (fn 8 (pr b8 (.int 12))) (.int 2))))) bG
abbrev jB:E:=.not (fn 1 (pr (fn 1 (pr aJ (.int 0))) (fn 6 (pr (fn 8 (pr b8 (.int 12))) (.int 9)))))
abbrev nD:E:=cmp .eql (var 21) (.int 1)
abbrev zn:E:=cmp .lss da (.int 4)
abbrev K68:E:=cmp .lss (.int 1) bG
abbrev K69:E:=.not K68
abbrev vR:=[GW,vn,K69,gW,pT]
abbrev F7:E:=pr au (pr aJ (pr bG cP))
abbrev sY:E:=fn 143 (pr (fn 10 (.int 0)) F7)
abbrev QW:E:=cmp .lss da (.int 0)
abbrev K74:=vn::K51
abbrev K75:=eH::K74
abbrev RD:=pT::K75
abbrev Dl:E:=cmp .eql bG (.int 0)
abbrev KQ:E:=.not Dl
abbrev Bv:E:=cmp .lss (var 34) (.int 0)
abbrev y8:E:=.not Bv
abbrev I4:E:=.iff y8 (fn 114 (pr (fn 1 (pr aJ (.int 22))) (fn 1 (pr (fn 1 (pr aJ (.int 0))) (fn 6 (pr (fn 8 (pr b8 (.int 12))) (.int 0)))))))
abbrev IX:E:=.iff y8 (fn 114 (pr (fn 1 (pr aJ (.int 8))) (fn 1 (pr (fn 1 (pr aJ (.int 0))) (fn 6 (pr (fn 8 (pr b8 (.int 12))) (.int 0)))))))
abbrev K83:E:=cmp .lss jk (.int 1)
abbrev K84:E:=.not K83
abbrev K85:=[K84]
abbrev K86:=K50::K85
abbrev K87:=K60::K86
abbrev K88:=pT::K87
abbrev vO:=vn::K69::gW::K88
abbrev tn:E:=fn 143 (pr aC F7)
abbrev K91:=vn::K88
abbrev Er:E:=.not QW
abbrev K93:E:=pr (fn 23 (pr (fn 1 (pr (fn 1 (pr aJ (.int 0))) (fn 6 (pr (fn 8 (pr b8 (.int 12))) (.int 0))))) (fn 23 (pr da (fn 10 (.int 0)))))) F7
abbrev YS:E:=fn 143 K93
abbrev K95:E:=pr (fn 3 (pr aC (fn 23 (pr (fn 1 (pr (fn 1 (pr aJ (.int 0))) (fn 6 (pr (fn 8 (pr b8 (.int 12))) (.int 0))))) (fn 23 (pr da (fn 10 (.int 0)))))))) F7
abbrev K96:E:=fn 143 K95
abbrev Ui:E:=cmp .eql aJ (.int 1)
abbrev K98:E:=.iff bG (fn 115 au)
abbrev K99:=[K98]
abbrev Et:E:=fn 145 (pr au aJ)
abbrev anw:E:=cmp .eql aJ (.int 0)
abbrev tJ:E:=.bool false
abbrev VX:E:=cmp .lss (.int 20) bG
abbrev cw:E:=var 3
abbrev f0:E:=var 4
abbrev jl:E:=var 5
abbrev jJ:E:=var 6
abbrev aMu:E:=pr f0 (pr jl jJ)
abbrev aP9:E:=pr cw aMu
abbrev aqv:E:=pr bG aP9
abbrev atY:E:=fn 146 aqv
abbrev aa1:E:=.and Et atY
abbrev lr:E:=.iff tJ aa1
abbrev qh:E:=.not VX
abbrev alv:E:=cmp .lss cw (.int 0)
abbrev qr:E:=.not alv
abbrev ahl:E:=cmp .lss (.int 20) cw
abbrev ua:E:=.not ahl
abbrev ai7:E:=cmp .lss f0 (.int 0)
abbrev vB:E:=.not ai7
abbrev UG:E:=cmp .lss (.int 20) f0
abbrev Ac:E:=.not UG
abbrev Xh:E:=cmp .lss jl (.int 0)
abbrev DE:E:=.not Xh
abbrev E5:E:=cmp .lss (.int 20) jl
abbrev SD:E:=cmp .lss aJ (.int 0)
abbrev adx:E:=cmp .lss (.int 1) aJ
abbrev Rt:E:=cmp .lss jJ (.int 0)
abbrev agW:E:=cmp .lss (.int 20) jJ
abbrev u7:E:=.not (cmp .lss (fn 120 (pr aJ (pr bG (fn 9 (pr (fn 1 (pr aJ (.int 0))) (.int 12)))))) (.int 0))
abbrev tf:E:=cmp .eql cw (fn 120 (pr aJ (pr bG (fn 9 (pr (fn 1 (pr aJ (.int 0))) (.int 12))))))
abbrev anA:E:=cmp .lss (fn 1 (pr (fn 1 (pr aJ (.int 0))) (fn 6 (pr (fn 8 (pr cw (.int 12))) (.int 1))))) (.int 0)
abbrev AY:E:=.not anA
abbrev CU:E:=cmp .lss (fn 1 (pr (fn 1 (pr aJ (.int 0))) (fn 6 (pr (fn 8 (pr cw (.int 12))) (.int 1))))) (fn 9 (pr au (.int 14)))
abbrev BU:E:=cmp .eql (fn 150 (pr au (pr aJ bG))) (.int (-1))
abbrev F9:E:=cmp .eql (fn 1 (pr au (fn 6 (pr (fn 8 (pr (fn 1 (pr (fn 1 (pr aJ (.int 0))) (fn 6 (pr (fn 8 (pr cw (.int 12))) (.int 1))))) (.int 14))) (.int 1))))) (.int 1)
abbrev M8:E:=cmp .lss (fn 1 (pr au (fn 6 (pr (fn 8 (pr (fn 1 (pr (fn 1 (pr aJ (.int 0))) (fn 6 (pr (fn 8 (pr cw (.int 12))) (.int 1))))) (.int 14))) (.int 7))))) (.int 0)
abbrev alG:E:=cmp .lss (fn 1 (pr au (fn 6 (pr (fn 8 (pr (fn 1 (pr (fn 1 (pr aJ (.int 0))) (fn 6 (pr (fn 8 (pr cw (.int 12))) (.int 1))))) (.int 14))) (.int 7))))) (.int 4)
abbrev ti:E:=cmp .eql K0 (.int 0)
abbrev iI:E:=.ar .add .i64 K0 (.int 1)
abbrev DR:E:=.not (cmp .lss iI (.int 1))
abbrev kK:E:=.not (cmp .lss (.int 60) aJ)
abbrev gD:E:=cmp .eql (fn 0 au) aJ
abbrev rX:E:=.not (cmp .lss aJ (.int 1))
abbrev gq:E:=cmp .lss K0 aJ
abbrev cZ:E:=var 9
abbrev HE:E:=cmp .eql cZ K0
abbrev aGx:E:=cmp .lss K0 (.int 1)
abbrev arz:E:=.not aGx
abbrev adn:=[arz]
abbrev tD:=HE::adn
abbrev aoG:E:=.not (cmp .lss aJ K0)
abbrev ahb:=[aoG]
abbrev EM:E:=.not (cmp .lss aJ iI)
abbrev iN:E:=cmp .lss aC cZ
abbrev lz:E:=.not iN
abbrev nj:E:=.not (cmp .lss cZ aC)
abbrev aA6:E:=cmp .lss (fn 7 (pr cZ aC)) (.int 0)
abbrev TX:E:=.not aA6
abbrev mN:E:=.not (cmp .lss aC (.int 0))
abbrev aS:E:=var 8
abbrev qq:E:=cmp .eql (fn 0 aS) cZ
abbrev Dt:=[qq,HE]
abbrev TI:=mN::Dt
abbrev aD5:=rX::TI
abbrev aLG:=gD::aD5
abbrev aqz:=kK::aLG
abbrev ast:=gq::aqz
abbrev Hp:=iN::ast
abbrev fL:E:=.ar .add .i64 aC (.int 1)
abbrev Ke:E:=.not (cmp .lss fL (.int 0))
abbrev Lk:E:=fn 152 (pr aS (pr au K0))
abbrev Wo:E:=cmp .eql iI (.int 1)
abbrev KA:E:=pr au iI
abbrev aqV:E:=pr (fn 23 (pr (fn 1 (pr au K0)) (fn 10 (.int 0)))) KA
abbrev Uq:E:=fn 152 aqV
abbrev aWv:E:=cmp .lss (.int 2147483648) (fn 6 (pr (fn 7 (pr cZ aC)) (.int 1)))
abbrev Zk:E:=.not aWv
abbrev RS:E:=cmp .lss (fn 1 (pr aS aC)) (fn 1 (pr au K0))
abbrev P0:E:=fn 160 (pr aS (pr (fn 1 (pr au K0)) aC))
abbrev yE:E:=cmp .lss (fn 7 (pr aJ iI)) (fn 7 (pr aJ K0))
abbrev QB:E:=var 10
abbrev aKK:E:=cmp .lss QB cZ
abbrev aXX:E:=.not aKK
abbrev aRM:=[aXX]
abbrev WJ:=qq::aRM
abbrev ayp:E:=cmp .lss QB aC
abbrev NR:E:=.not ayp
abbrev BJ:E:=cmp .eql QB aC
abbrev yC:E:=.not (cmp .lss (fn 7 (pr aJ iI)) (.int 0))
abbrev aSf:=kK::gD::rX::nj::Dt
abbrev ajj:=gq::aSf
abbrev aGS:E:=cmp .lss (.int 2147483648) aC
abbrev afV:E:=.not aGS
abbrev aTa:=rX::Dt
abbrev aMf:=gD::aTa
abbrev aDD:=kK::aMf
abbrev Qj:=gq::aDD
abbrev aJd:E:=cmp .lss (fn 6 (pr (fn 7 (pr cZ aC)) (.int 1))) (.int 0)
abbrev ajk:E:=.not aJd
abbrev pa:E:=cmp .eql aC (.int 0)
abbrev aeg:E:=cmp .eql (fn 6 (pr (fn 7 (pr cZ aC)) (.int 1))) (.int 0)
abbrev NK:=[pa,aeg,nj]
abbrev amo:E:=cmp .eql iI (.int 0)
abbrev qe:=lz::pa::nj::tD
abbrev Uc:E:=cmp .lss (.int 0) (fn 6 (pr (fn 7 (pr cZ aC)) (.int 1)))
abbrev Sj:=[iN,pa,aeg]
abbrev avl:=gD::rX::tD
abbrev ayN:=kK::avl
abbrev PJ:=gq::ayN
abbrev axt:=pa::Qj
abbrev Oq:=iN::axt
abbrev P1:=nj::qq::tD
abbrev akC:=iN::pa::gq::gD::Dt
abbrev aa2:E:=cmp .eql (fn 6 (pr (fn 7 (pr cZ aC)) (.int 1))) iI
abbrev amy:E:=cmp .eql (fn 6 (pr (fn 0 (fn 4 (pr aS (pr aC (fn 6 (pr aC (fn 7 (pr cZ aC)))))))) (.int 1))) (fn 6 (pr (fn 7 (pr cZ aC)) (.int 1)))
abbrev agw:E:=cmp .eql (fn 6 (pr (fn 0 (fn 4 (pr aS (pr (.int 0) aC)))) (fn 6 (pr (fn 0 (fn 4 (pr aS (pr aC (fn 6 (pr aC (fn 7 (pr cZ aC)))))))) (.int 1))))) (fn 6 (pr aC (fn 6 (pr (fn 7 (pr cZ aC)) (.int 1)))))
abbrev aLV:=qq::adn
abbrev aIw:=Lk::aLV
abbrev aOj:=mN::aIw
abbrev aUt:=nj::aOj
abbrev aGc:=P0::aUt
abbrev aQI:=gD::aGc
abbrev azu:=kK::aQI
abbrev aTN:=gq::azu
abbrev ac1:=lz::aTN
abbrev aSF:E:=pr (fn 3 (pr (fn 23 (pr (fn 1 (pr au K0)) (fn 10 (.int 0)))) (fn 4 (pr aS (pr aC (fn 6 (pr aC (fn 7 (pr cZ aC))))))))) KA
abbrev ahw:E:=fn 152 aSF
abbrev ato:E:=pr (fn 3 (pr (fn 4 (pr aS (pr (.int 0) aC))) (fn 3 (pr (fn 23 (pr (fn 1 (pr au K0)) (fn 10 (.int 0)))) (fn 4 (pr aS (pr aC (fn 6 (pr aC (fn 7 (pr cZ aC))))))))))) KA
abbrev UX:E:=fn 152 ato
abbrev aKD:=gD::P0::mN::Lk::Dt
abbrev aO6:=kK::aKD
abbrev abe:=gq::aO6
abbrev Lv:E:=cmp .eql aJ f0
abbrev aXG:E:=pr cw aJ
abbrev asK:E:=pr au aXG
abbrev aoS:E:=fn 161 asK
abbrev ahZ:E:=.and Lv aoS
abbrev acz:E:=.iff tJ ahZ
abbrev At:E:=cmp .eql f0 aJ
abbrev Bz:E:=cmp .lss aS aJ
abbrev aXK:E:=cmp .eql (fn 0 cw) f0
abbrev Rs:=[aXK,gD]
abbrev UB:=At::Rs
abbrev apI:E:=pr au (pr cw aS)
abbrev aeM:E:=fn 161 apI
abbrev WA:E:=cmp .eql (fn 1 (pr au aS)) (fn 1 (pr cw aS))
abbrev zq:E:=.not (cmp .lss aS (.int 0))
abbrev aXu:E:=cmp .lss (.int 100) f0
abbrev akA:E:=.not aXu
abbrev avS:=vB::Rs
abbrev aQ3:=akA::avS
abbrev aPG:=At::aQ3
abbrev aPT:=zq::aPG
abbrev Jp:=Bz::aPT
abbrev jD:E:=.ar .add .i64 aS (.int 1)
abbrev avg:E:=cmp .lss jD (.int 0)
abbrev aa9:E:=.not avg
abbrev aX6:E:=cmp .lss (.int 12) (fn 9 (pr au (.int 14)))
abbrev aex:E:=.not aX6
abbrev Xa:E:=.and aex K35
abbrev WY:E:=cmp .lss aS (.int 13)
abbrev Qr:E:=cmp .lss aS (fn 9 (pr au (.int 14)))
abbrev amL:E:=.imp aex Xa
abbrev aek:E:=fn 155 (pr au aS)
abbrev Iu:E:=cmp .lss aC (fn 9 (pr (fn 1 (pr au (fn 6 (pr (fn 8 (pr aS (.int 14))) (.int 12))))) (.int 2)))
abbrev aos:E:=cmp .lss (.int 3) (fn 9 (pr (fn 1 (pr au (fn 6 (pr (fn 8 (pr aS (.int 14))) (.int 12))))) (.int 2)))
abbrev amg:E:=.not aos
abbrev aVs:=[amg]
abbrev R5:=mN::aVs
abbrev akB:=Iu::R5
abbrev v6:=[WY,zq]
abbrev aMU:E:=cmp .lss (fn 9 (pr (fn 1 (pr au (fn 6 (pr (fn 8 (pr aS (.int 14))) (.int 12))))) (.int 2))) aC
abbrev acZ:E:=.not aMU
abbrev aMt:=acZ::R5
abbrev aeh:=Iu::aMt
abbrev aFr:E:=pr (fn 1 (pr au (fn 6 (pr (fn 8 (pr aS (.int 14))) (.int 12))))) aC
abbrev amR:E:=fn 157 aFr
abbrev Fz:E:=cmp .lss (.int 40) (fn 0 (fn 1 (pr au (.int 6))))
abbrev pn:E:=.imp tJ (fn 117 au)
abbrev ahH:E:=cmp .lss (.int 40) (fn 0 (fn 1 (pr au (.int 7))))
abbrev adT:E:=cmp .lss (.int 40) (fn 0 (fn 1 (pr au (.int 8))))
abbrev agC:E:=cmp .lss (.int 40) (fn 0 (fn 1 (pr au (.int 9))))
abbrev afe:E:=cmp .lss (.int 40) (fn 0 (fn 1 (pr au (.int 20))))
abbrev anf:E:=cmp .lss (.int 40) (fn 0 (fn 1 (pr au (.int 21))))
abbrev Zc:E:=cmp .lss (.int 40) (fn 0 (fn 1 (pr au (.int 22))))
abbrev UI:E:=cmp .lss (.int 40) (fn 0 (fn 1 (pr au (.int 23))))
abbrev Mj:E:=fn 159 au
abbrev aI5:E:=cmp .lss (.int 20) (fn 9 (pr (fn 1 (pr au (.int 29))) (.int 5)))
abbrev anr:E:=.not aI5
abbrev Lo:E:=.and anr (fn 158 (pr (fn 1 (pr au (.int 29))) (fn 9 (pr (fn 1 (pr au (.int 29))) (.int 5)))))
abbrev aT0:E:=cmp .lss (.int 20) (fn 9 (pr (fn 1 (pr au (.int 30))) (.int 5)))
abbrev Yx:E:=.not aT0
abbrev Qo:E:=.and Yx (fn 158 (pr (fn 1 (pr au (.int 30))) (fn 9 (pr (fn 1 (pr au (.int 30))) (.int 5)))))
abbrev Gm:E:=.imp (.not (cmp .lss aS (.int 1))) Lo
abbrev aDH:E:=cmp .lss aS (.int 2)
abbrev ag6:E:=.not aDH
abbrev Mw:E:=.imp ag6 Qo
abbrev Da:E:=cmp .lss aC (fn 9 (pr (fn 1 (pr au (.int 29))) (.int 5)))
abbrev P9:=[anr]
abbrev aH6:=mN::P9
abbrev an4:=Da::aH6
abbrev aQB:E:=pr (fn 1 (pr au (.int 29))) aC
abbrev aaP:E:=fn 158 aQB
abbrev aNP:E:=cmp .lss jD (.int 1)
abbrev aGA:E:=.not aNP
abbrev ajv:E:=.imp aGA Lo
abbrev O0:E:=cmp .lss aC (fn 9 (pr (fn 1 (pr au (.int 30))) (.int 5)))
abbrev ajZ:=[Yx]
abbrev akN:=mN::ajZ
abbrev ahK:=O0::akN
abbrev aoI:E:=cmp .lss jD (.int 2)
abbrev aOA:E:=.not aoI
abbrev aij:E:=.imp aOA Qo
abbrev aQ1:E:=pr (fn 1 (pr au (.int 30))) aC
abbrev UR:E:=fn 158 aQ1
def fS:List Fa:=[]
theorem asM:aN Try.prog (aZ (aIH)):=sc fS ([]) WP ([]) (by kernel_rfl) (by kernel_rfl)
def UD:Nl:=nc (Pr (kss:=[.down kE]) asM) WP
def h9:List Fa:=[]
theorem aOF:aN Try.prog (aZ (ayf)):=sc h9 ([]) UD ([]) (by kernel_rfl) (by kernel_rfl)
def ajt:Nl:=nc aOF UD
def aAY:=fb ([K2]) (.not (cmp .lss (.int 100) (fn 9 (pr K0 (.int 5)))))<|aq fun F p0=>by
 have:=@ux F K0 K1
 try simp only[aa]at *
 grind
def aoM:=fb ([K2]) (.not (cmp .lss (.int 100) (fn 9 (pr K1 (.int 2)))))<|aq fun F p0=>by
 have:=@ux F K0 K1
 try simp only[aa]at *
 grind
def aYF:=fb (K6::K8::HM) (.not (cmp .lss (.int 100) (fn 9 (pr (fn 1 (pr K3 (fn 6 (pr (fn 8 (pr K7 (.int 2))) (.int 1))))) (.int 5)))))<|af fun F p0 p1 p2=>by
 have:=@Yk F K7 K4 K3
 try simp only[aa]at *
 grind
def aTl:=fb K14 (.not (cmp .lss Ay (.int 0)))<|aq fun F p0=>by
 have:=An F (pr K1 (.int 2))
 try simp only[aa]at *
 grind
def aWQ:=fb K17 (.not (cmp .lss jk (.int 0)))<|aq fun F p0=>by
 have:=An F (pr K1 (.int 2))
 try simp only[aa]at *
 grind
def axU:=fb K21 (.not (cmp .lss DL (.int 0)))<|af fun F p0 p1 p2=>by
 try simp only[aa,ab]at *
 obtain⟨a4,ea4,qa4⟩:=ae ((E.I F K7)+(1))
 omega
def aOm:=fb K23 (.not (cmp .lss (.int 3) Ay))<|ak fun F p0 p1=>by
 have:=@ux F K0 K1
 try simp only[aa]at *
 grind
def aQP:=fb ZJ (.not (cmp .lss (.int 3) jk))<|ak fun F p0 p1=>by
 have:=@ux F K0 K1
 try simp only[aa]at *
 grind
def aFk:=fb K28 (.not (cmp .lss K4 DL))<|aj fun F p0 p1 p2 p3=>by
 try simp only[aa,ab]at *
 obtain⟨a4,ea4,qa4⟩:=ae ((E.I F K7)+(1))
 omega
def aIO:=fb K23 (fn 157 (pr K1 Ay))<|ak fun F p0 p1=>by
 have:=@ux F K0 K1
 have:=@WD F (fn 9 (pr K1 (.int 2))) Ay K1
 try simp only[aa]at *
 grind
def aXB:=fb ZJ (fn 157 (pr K1 jk))<|ak fun F p0 p1=>by
 have:=@ux F K0 K1
 have:=@WD F (fn 9 (pr K1 (.int 2))) jk K1
 try simp only[aa]at *
 grind
def aDf:=fb (K8::(cmp .eql (fn 9 (pr (fn 1 (pr K3 (fn 6 (pr (fn 8 (pr K7 (.int 2))) (.int 1))))) (.int 5))) (.int 0))::K29) (fn 157 (pr (fn 2 (pr K3 (pr (fn 6 (pr (fn 8 (pr K7 (.int 2))) (.int 1))) (fn 30 (.int 0))))) K4))<|aj fun F p0 p1 p2 p3=>by
 have:=@Wm F K7 K4 (fn 30 (.int 0)) K3
 have:=@akc F (.int 0) 5
 try simp only[aa]at *
 grind
def aJI:=fb (K8::K29) (fn 157 (pr (fn 2 (pr K3 (pr (fn 6 (pr (fn 8 (pr K7 (.int 2))) (.int 1))) (fn 28 (pr (pr (var 47) (var 45)) (fn 1 (pr K3 (fn 6 (pr (fn 8 (pr K7 (.int 2))) (.int 1)))))))))) K4))<|af fun F p0 p1 p2=>by
 have:=@Yk F K7 K4 K3
 have:=@Wm F K7 K4 (fn 28 (pr (pr (var 47) (var 45)) (fn 1 (pr K3 (fn 6 (pr (fn 8 (pr K7 (.int 2))) (.int 1))))))) K3
 have:=@aRZ F (fn 1 (pr K3 (fn 6 (pr (fn 8 (pr K7 (.int 2))) (.int 1))))) (pr (var 47) (var 45))
 try simp only[aa]at *
 grind
def aoq:=fb K21 (cmp .lss (fn 7 (pr K4 DL)) (fn 7 (pr K4 K7)))<|af fun F p0 p1 p2=>by
 try simp only[aa,ab]at *
 obtain⟨a4,ea4,qa4⟩:=ae ((E.I F K7)+(1))
 omega
def aEA:=fb K28 (.not (cmp .lss (fn 7 (pr K4 DL)) (.int 0)))<|aj fun F p0 p1 p2 p3=>by
 try simp only[aa,ab]at *
 obtain⟨a4,ea4,qa4⟩:=ae ((E.I F K7)+(1))
 omega
def jQ:List Fa:=[aAY,aoM,aYF,aTl,aWQ,axU,aOm,aQP,aFk,aIO,aXB,aDf,aJI,aoq,aEA]
theorem aYE:aN Try.prog (aZ (aXT)):=sc jQ (aqE) ajt ([]) (by kernel_rfl) (by kernel_rfl)
def ajn:Nl:=nc (Pr (kss:=List.replicate 12 .stay++[.down uD]) aYE) ajt
def aKf:=fb ([Gp]) K33<|aq fun F p0=>by
 have:=@wm F bG au
 try simp only[aa]at *
 grind
def aVC:=fb ([K35,gW,Bh]) (fn 156 (pr (fn 1 (pr au (fn 6 (pr (fn 8 (pr bG (.int 14))) (.int 11))))) (fn 1 (pr au (fn 6 (pr (fn 8 (pr bG (.int 14))) (.int 12)))))))<|af fun F p0 p1 p2=>by
 have:=@aSC F bG (fn 9 (pr au (.int 14))) au
 try simp only[aa]at *
 grind
def aEX:=fb ([gW,(.not Bh)]) K33<|ak fun F p0 p1=>by
 have:=@wm F bG au
 try simp only[aa]at *
 grind
def aPV:=fb ([Gp]) Xo<|aq fun F p0=>by
 have:=@wm F bG au
 try simp only[aa]at *
 grind
def aHO:=fb ([gW,Bh]) (cmp .eql (fn 1 (pr au (fn 6 (pr (fn 8 (pr bG (.int 14))) (.int 1))))) (fn 141 (pr au bG)))<|ak fun F p0 p1=>by
 have:=@zc F bG au
 try simp only[aa]at *
 grind
def axO:=fb ([gW,(.not Bh)]) Xo<|ak fun F p0 p1=>by
 have:=@wm F bG au
 try simp only[aa]at *
 grind
def aFz:=fb ([gW,Bh]) (cmp .eql (fn 1 (pr au (fn 6 (pr (fn 8 (pr bG (.int 14))) (.int 7))))) (fn 142 (pr au bG)))<|ak fun F p0 p1=>by
 have:=@zc F bG au
 try simp only[aa]at *
 grind
def jM:List Fa:=[aKf,aVC,aEX,aPV,aHO,axO,aFz]
theorem aKi:aN Try.prog (aZ (as9)):=sc jM ([]) ajn ([]) (by kernel_rfl) (by kernel_rfl)
def Zu:Nl:=nc (Pr (kss:=List.replicate 11 .stay++[.down kE,.down uD]) aKi) ajn
def aFY:=fb ([pT]) (.not (cmp .lss (.int 30) (fn 9 (pr (fn 1 (pr aJ (.int 0))) (.int 12)))))<|aq fun F p0=>by
 have:=ap p0
 try simp only[aa]at *
 omega
def aDE:=fa ((fn 143 (pr (fn 10 (.int 0)) (pr au (pr aJ (pr bG (.int 0)))))))<|fun F=>by
 rfl
def aCf:=fb NO (.not (cmp .lss cP (.int 0)))<|af fun F p0 p1 p2=>by
 have:=ap p0
 try simp only[aa,ab]at *
 obtain⟨a9,ea9,qa9⟩:=ae ((E.I F b8)+(1))
 omega
def aKm:=fb ([pT]) (.not (cmp .lss (.int 1000) (fn 0 (fn 1 (pr aJ (.int 8))))))<|aq fun F p0=>by
 have:=ap p0
 try simp only[aa]at *
 omega
def aMq:=fb ([pT]) (.not (cmp .lss (.int 1000) (fn 0 (fn 1 (pr aJ (.int 22))))))<|aq fun F p0=>by
 have:=ap p0
 try simp only[aa]at *
 omega
def aWi:=fa ((cmp .eql (fn 8 (pr (.int 0) (.int 2))) (.int 0)))<|fun F=>by
 rfl
def aQm:=fb ((.not eH)::Py::K51) (.not (cmp .lss (fn 9 (pr (fn 1 (pr aJ (.int 0))) (.int 12))) jk))<|af fun F p0 p1 p2=>by
 try simp only[aa]at *
 omega
def aGC:=fb MR (.not (cmp .lss (fn 9 (pr (fn 1 (pr aJ (.int 0))) (.int 12))) cP))<|ak fun F p0 p1=>by
 try simp only[aa,ab]at *
 obtain⟨a9,ea9,qa9⟩:=ae ((E.I F b8)+(1))
 omega
def aVT:=fb ([(.not eH),GW,Py]) (fn 143 (pr (fn 10 (.int 0)) K56))<|af fun F p0 p1 p2=>by
 have:=@Vi F (fn 10 (.int 0)) b8 bG (fn 9 (pr (fn 1 (pr aJ (.int 0))) (.int 12))) aJ au
 try simp only[aa]at *
 grind
def aDq:=fb ([K58,(.not (cmp .lss (var 18) jk))]) (.not (cmp .lss (var 18) (.int 0)))<|ak fun F p0 p1=>by
 try simp only[aa]at *
 have:=@cf F aC
 omega
def aB9:=fb ([(.not eH),Py,K60]) (fn 143 (pr aC K56))<|af fun F p0 p1 p2=>by
 have:=@Vi F aC b8 bG (fn 9 (pr (fn 1 (pr aJ (.int 0))) (.int 12))) aJ au
 try simp only[aa]at *
 grind
def aTI:=fb (eH::gz::og::jf::jB::nD::(.not zn)::vR) sY<|fu fun F p0 p1 p2 p3 p4 p5 p6 p7 p8 p9 ai ao=>by
 have:=ap ao
 have:=@am F b8 (.int 1)
 have:=fun hp hv h0 hn=>@dK F _ _ _ cP _ _ _ p7 _ _ _ _ da rfl rfl rfl rfl (jO hp) h0 hn hv
 have:=fun hp hv h0 hn=>@dK F _ _ _ cP _ _ _ p7 _ _ _ _ da rfl rfl rfl rfl (jn hp) h0 hn hv
 try simp only[aa]at *
 grind
def auo:=fb (eH::gz::og::jf::jB::nD::QW::vR) sY<|fu fun F p0 p1 p2 p3 p4 p5 p6 p7 p8 p9 ai ao=>by
 have:=ap ao
 have:=@am F b8 (.int 1)
 have:=fun hp hv h0 hn=>@dK F _ _ _ cP _ _ _ p7 _ _ _ _ da rfl rfl rfl rfl (jO hp) h0 hn hv
 have:=fun hp hv h0 hn=>@dK F _ _ _ cP _ _ _ p7 _ _ _ _ da rfl rfl rfl rfl (jn hp) h0 hn hv
 try simp only[aa]at *
 grind
def aBL:=fb (eH::gz::og::jf::jB::(.not nD)::vR) sY<|dH fun F p0 p1 p2 p3 p4 p5 p6 p7 p8 p9 ai=>by
 have:=ap ai
 have:=@am F b8 (.int 1)
 have:=fun hp hv h0 hn=>@dK F _ _ _ cP _ _ _ p6 _ _ _ _ da rfl rfl rfl rfl (jO hp) h0 hn hv
 have:=fun hp hv h0 hn=>@dK F _ _ _ cP _ _ _ p6 _ _ _ _ da rfl rfl rfl rfl (jn hp) h0 hn hv
 try simp only[aa]at *
 grind
def azN:=fb (eH::gz::jf::(fn 1 (pr (fn 1 (pr aJ (.int 0))) (fn 6 (pr (fn 8 (pr b8 (.int 12))) (.int 9)))))::vR) sY<|bh fun F p0 p1 p2 p3 p4 p5 p6 p7 p8=>by
 have:=ap p8
 have:=@am F b8 (.int 1)
 have:=fun hp hv h0 hn=>@dK F _ _ _ cP _ _ _ p4 _ _ _ _ da rfl rfl rfl rfl (jO hp) h0 hn hv
 have:=fun hp hv h0 hn=>@dK F _ _ _ cP _ _ _ p4 _ _ _ _ da rfl rfl rfl rfl (jn hp) h0 hn hv
 try simp only[aa]at *
 grind
def aWx:=fb (eH::gz::(.not jf)::vR) sY<|ba fun F p0 p1 p2 p3 p4 p5 p6 p7=>by
 have:=ap p7
 have:=@am F b8 (.int 1)
 have:=fun hp hv h0 hn=>@dK F _ _ _ cP _ _ _ p3 _ _ _ _ da rfl rfl rfl rfl (jO hp) h0 hn hv
 have:=fun hp hv h0 hn=>@dK F _ _ _ cP _ _ _ p3 _ _ _ _ da rfl rfl rfl rfl (jn hp) h0 hn hv
 try simp only[aa]at *
 grind
def aJu:=fb RD (.not (cmp .lss cP jk))<|aj fun F p0 p1 p2 p3=>by
 have:=ap p0
 try simp only[aa,ab]at *
 obtain⟨a12,ea12,qa12⟩:=ae ((E.I F b8)+(1))
 omega
def aBj:=fb RD (.not (cmp .lss (.int 2147483648) (fn 6 (pr jk (.int 1)))))<|aj fun F p0 p1 p2 p3=>by
 have:=ap p0
 try simp only[aa]at *
 omega
def aH8:=fb NO (cmp .lss (fn 7 (pr (fn 9 (pr (fn 1 (pr aJ (.int 0))) (.int 12))) cP)) (fn 7 (pr (fn 9 (pr (fn 1 (pr aJ (.int 0))) (.int 12))) b8)))<|af fun F p0 p1 p2=>by
 have:=ap p0
 try simp only[aa,ab]at *
 obtain⟨a9,ea9,qa9⟩:=ae ((E.I F b8)+(1))
 omega
def aXQ:=fa ((cmp .eql (fn 8 (pr (.int 1) (.int 2))) (.int 2)))<|fun F=>by
 rfl
def aIq:=fb (eH::gz::jB::KQ::I4::Bv::vR) sY<|dH fun F p0 p1 p2 p3 p4 p5 p6 p7 p8 p9 ai=>by
 have:=ap ai
 have:=@am F b8 (.int 1)
 have:=fun hp hv h0 hn=>@dK F _ _ _ cP _ _ _ p6 _ _ _ _ da rfl rfl rfl rfl (jn hp) h0 hn hv
 try simp only[aa]at *
 grind
def aJi:=fb ([eH,gz,jB,Dl,IX,Bv,GW,vn,pT]) sY<|bh fun F p0 p1 p2 p3 p4 p5 p6 p7 p8=>by
 have:=ap p8
 have:=@am F b8 (.int 1)
 have:=fun hp hv h0 hn=>@dK F _ _ _ cP _ _ _ p6 _ _ _ _ da rfl rfl rfl rfl (jO hp) h0 hn hv
 try simp only[aa]at *
 grind
def atg:=fb (eH::gz::og::jf::jB::nD::(.not zn)::vO) tn<|ub fun F p0 p1 p2 p3 p4 p5 p6 p7 p8 p9 ai ao aw aD=>by
 have:=ap ai
 have:=@am F b8 (.int 1)
 have:=fun hp hv h0 hn=>@dK F _ _ _ cP _ _ _ ao _ _ _ _ da rfl rfl rfl rfl (jO hp) h0 hn hv
 have:=fun hp hv h0 hn=>@dK F _ _ _ cP _ _ _ ao _ _ _ _ da rfl rfl rfl rfl (jn hp) h0 hn hv
 try simp only[aa]at *
 grind
def aK4:=fb (eH::gz::og::jf::jB::nD::QW::vO) tn<|ub fun F p0 p1 p2 p3 p4 p5 p6 p7 p8 p9 ai ao aw aD=>by
 have:=ap ai
 have:=@am F b8 (.int 1)
 have:=fun hp hv h0 hn=>@dK F _ _ _ cP _ _ _ ao _ _ _ _ da rfl rfl rfl rfl (jO hp) h0 hn hv
 have:=fun hp hv h0 hn=>@dK F _ _ _ cP _ _ _ ao _ _ _ _ da rfl rfl rfl rfl (jn hp) h0 hn hv
 try simp only[aa]at *
 grind
def aPc:=fb (eH::gz::og::jf::jB::(.not nD)::vO) tn<|fV fun F p0 p1 p2 p3 p4 p5 p6 p7 p8 p9 ai ao aw=>by
 have:=ap p9
 have:=@am F b8 (.int 1)
 have:=fun hp hv h0 hn=>@dK F _ _ _ cP _ _ _ ai _ _ _ _ da rfl rfl rfl rfl (jO hp) h0 hn hv
 have:=fun hp hv h0 hn=>@dK F _ _ _ cP _ _ _ ai _ _ _ _ da rfl rfl rfl rfl (jn hp) h0 hn hv
 try simp only[aa]at *
 grind
def aWc:=fb (eH::gz::jf::(fn 1 (pr (fn 1 (pr aJ (.int 0))) (fn 6 (pr (fn 8 (pr b8 (.int 12))) (.int 9)))))::vO) tn<|dH fun F p0 p1 p2 p3 p4 p5 p6 p7 p8 p9 ai=>by
 have:=ap p7
 have:=@am F b8 (.int 1)
 have:=fun hp hv h0 hn=>@dK F _ _ _ cP _ _ _ p8 _ _ _ _ da rfl rfl rfl rfl (jO hp) h0 hn hv
 have:=fun hp hv h0 hn=>@dK F _ _ _ cP _ _ _ p8 _ _ _ _ da rfl rfl rfl rfl (jn hp) h0 hn hv
 try simp only[aa]at *
 grind
def aB8:=fb (eH::gz::(.not jf)::vO) tn<|bE fun F p0 p1 p2 p3 p4 p5 p6 p7 p8 p9=>by
 have:=ap p6
 have:=@am F b8 (.int 1)
 have:=fun hp hv h0 hn=>@dK F _ _ _ cP _ _ _ p7 _ _ _ _ da rfl rfl rfl rfl (jO hp) h0 hn hv
 have:=fun hp hv h0 hn=>@dK F _ _ _ cP _ _ _ p7 _ _ _ _ da rfl rfl rfl rfl (jn hp) h0 hn hv
 try simp only[aa]at *
 grind
def aR6:=fb MR (.not (cmp .lss (fn 7 (pr (fn 9 (pr (fn 1 (pr aJ (.int 0))) (.int 12))) cP)) (.int 0)))<|ak fun F p0 p1=>by
 try simp only[aa,ab]at *
 obtain⟨a9,ea9,qa9⟩:=ae ((E.I F b8)+(1))
 omega
def aB7:=fb NO (.not (cmp .lss cP (.int 1)))<|af fun F p0 p1 p2=>by
 have:=ap p0
 try simp only[aa,ab]at *
 obtain⟨a11,ea11,qa11⟩:=ae ((E.I F b8)+(1))
 omega
def azl:=fb (eH::gz::jB::KQ::I4::Bv::vO) tn<|fV fun F p0 p1 p2 p3 p4 p5 p6 p7 p8 p9 ai ao aw=>by
 have:=ap p9
 have:=@am F b8 (.int 1)
 have:=fun hp hv h0 hn=>@dK F _ _ _ cP _ _ _ ai _ _ _ _ da rfl rfl rfl rfl (jn hp) h0 hn hv
 try simp only[aa]at *
 grind
def aPH:=fb (eH::gz::jB::Dl::IX::Bv::K91) tn<|dH fun F p0 p1 p2 p3 p4 p5 p6 p7 p8 p9 ai=>by
 have:=ap p7
 have:=@am F b8 (.int 1)
 have:=fun hp hv h0 hn=>@dK F _ _ _ cP _ _ _ p8 _ _ _ _ da rfl rfl rfl rfl (jO hp) h0 hn hv
 try simp only[aa]at *
 grind
def aNf:=fb (eH::gz::og::jf::jB::nD::Er::zn::KQ::I4::y8::vR) YS<|pQ fun F p0 p1 p2 p3 p4 p5 p6 p7 p8 p9 ai ao aw aD aG aH=>by
 have:=ap aH
 have:=@am F b8 (.int 1)
 have hnil14:av F (fn 10 (.int 0))=[]:=rfl
 have:=fun hp hv h0 hn=>@dK F _ _ _ cP _ _ _ ao _ _ _ _ da rfl rfl rfl rfl (jn hp) h0 hn hv
 try simp only[aa]at *
 grind
def arM:=fb ([eH,gz,og,jf,jB,nD,Er,zn,Dl,IX,y8,GW,vn,pT]) YS<|ub fun F p0 p1 p2 p3 p4 p5 p6 p7 p8 p9 ai ao aw aD=>by
 have:=ap aD
 have:=@am F b8 (.int 1)
 have hnil14:av F (fn 10 (.int 0))=[]:=rfl
 have:=fun hp hv h0 hn=>@dK F _ _ _ cP _ _ _ ao _ _ _ _ da rfl rfl rfl rfl (jO hp) h0 hn hv
 try simp only[aa]at *
 grind
def aL5:=fb ([K58]) (cmp .eql (fn 6 (pr (fn 0 aC) (.int 2))) (fn 8 (pr (fn 6 (pr jk (.int 1))) (.int 2))))<|aq fun F p0=>by
 try simp only[aa]at *
 omega
def asm:=fb RD (.not (cmp .lss cP (fn 6 (pr jk (.int 1)))))<|aj fun F p0 p1 p2 p3=>by
 have:=ap p0
 try simp only[aa,ab]at *
 obtain⟨a14,ea14,qa14⟩:=ae ((E.I F b8)+(1))
 omega
def aGP:=fb (eH::gz::og::jf::jB::nD::Er::zn::KQ::I4::y8::vO) K96<|AN fun F p0 p1 p2 p3 p4 p5 p6 p7 p8 p9 ai ao aw aD aG aH aT aY=>by
 have:=ap aG
 have:=@am F b8 (.int 1)
 have:=fun hp hv h0 hn=>@dK F _ _ _ cP _ _ _ aH _ _ _ _ da rfl rfl rfl rfl (jn hp) h0 hn hv
 try simp only[aa]at *
 grind
def aWY:=fb (eH::gz::og::jf::jB::nD::Er::zn::Dl::IX::y8::K91) K96<|pQ fun F p0 p1 p2 p3 p4 p5 p6 p7 p8 p9 ai ao aw aD aG aH=>by
 have:=ap aw
 have:=@am F b8 (.int 1)
 have:=fun hp hv h0 hn=>@dK F _ _ _ cP _ _ _ aD _ _ _ _ da rfl rfl rfl rfl (jO hp) h0 hn hv
 try simp only[aa]at *
 grind
def nO:List Fa:=[aFY,aDE,aCf,aKm,aMq,aWi,aQm,aGC,aVT,aDq,aB9,aTI,auo,aBL,azN,aWx,aJu,aBj,aH8,aXQ,aIq,aJi,atg,aK4,aPc,aWc,aB8,aR6,aB7,azl,aPH,aNf,arM,aL5,asm,aGP,aWY]
theorem asI:aN Try.prog (aZ (aSd)):=sc nO (aCE) Zu (msS) (by kernel_rfl) (by kernel_rfl)
def akP:Nl:=nc asI Zu
def aGs:=fb (Ui::K99) (.iff bG Et)<|ak fun F p0 p1=>by
 have:=@ij F aJ au
 have:=@ad3 F au
 try simp only[aa]at *
 grind
def aAz:=fb ([(.not anw),(.not Ui)]) (.iff tJ Et)<|ak fun F p0 p1=>by
 have:=@ij F aJ au
 try simp only[aa]at *
 grind
def aU5:=fb (anw::K99) (.iff bG Et)<|ak fun F p0 p1=>by
 have:=@ij F aJ au
 have:=@ad3 F au
 try simp only[aa]at *
 grind
def nZ:List Fa:=[aGs,aAz,aU5]
theorem aOy:aN Try.prog (aZ (ax2)):=sc nZ ([]) akP ([]) (by kernel_rfl) (by kernel_rfl)
def Wy:Nl:=nc aOy akP
def ao9:=fb ([gW,VX]) lr<|ak fun F p0 p1=>by
 have:=@aO F bG cw f0 jl jJ
 try simp only[aa]at *
 grind
def aBW:=fb ([gW,qh,qr,ahl]) lr<|aj fun F p0 p1 p2 p3=>by
 have:=@aO F bG cw f0 jl jJ
 try simp only[aa]at *
 grind
def aFo:=fb ([gW,qh,qr,ua,vB,UG]) lr<|be fun F p0 p1 p2 p3 p4 p5=>by
 have:=@aO F bG cw f0 jl jJ
 try simp only[aa]at *
 grind
def awN:=fb ([gW,qh,qr,ua,vB,Ac,DE,E5]) lr<|ba fun F p0 p1 p2 p3 p4 p5 p6 p7=>by
 have:=@aO F bG cw f0 jl jJ
 try simp only[aa]at *
 grind
def aun:=fb ([gW,qh,qr,ua,vB,Ac,DE,(.not E5),(.not SD),(.not adx),(.not Rt),(.not agW),(.iff (var 7) (fn 130 au))]) (.iff (var 7) aa1)<|fV fun F p0 p1 p2 p3 p4 p5 p6 p7 p8 p9 ai ao aw=>by
 have:=@ij F aJ au
 have:=@aO F bG cw f0 jl jJ
 try simp only[aa]at *
 grind
def aHs:=fb ([gW,qh,qr,ua,vB,Ac,DE,(.not E5),(.not Rt),agW]) lr<|bE fun F p0 p1 p2 p3 p4 p5 p6 p7 p8 p9=>by
 have:=@aO F bG cw f0 jl jJ
 try simp only[aa]at *
 grind
def av4:=fb ([gW,qh,qr,ua,vB,Ac,DE,(.not E5),Rt]) lr<|bh fun F p0 p1 p2 p3 p4 p5 p6 p7 p8=>by
 have:=@aO F bG cw f0 jl jJ
 try simp only[aa]at *
 grind
def aE0:=fb ([(.not SD),adx]) lr<|ak fun F p0 p1=>by
 have:=@ij F aJ au
 try simp only[aa]at *
 grind
def aN4:=fb ([SD]) lr<|aq fun F p0=>by
 have:=@ij F aJ au
 try simp only[aa]at *
 grind
def aOQ:=fb ([gW,qh,qr,ua,vB,Ac,Xh]) lr<|bb fun F p0 p1 p2 p3 p4 p5 p6=>by
 have:=@aO F bG cw f0 jl jJ
 try simp only[aa]at *
 grind
def auM:=fb ([gW,qh,qr,ua,ai7]) lr<|aB fun F p0 p1 p2 p3 p4=>by
 have:=@aO F bG cw f0 jl jJ
 try simp only[aa]at *
 grind
def aDZ:=fb ([gW,qh,alv]) lr<|af fun F p0 p1 p2=>by
 have:=@aO F bG cw f0 jl jJ
 try simp only[aa]at *
 grind
def aYm:=fb ([Gp]) lr<|aq fun F p0=>by
 have:=@aO F bG cw f0 jl jJ
 try simp only[aa]at *
 grind
def vH:List Fa:=[ao9,aBW,aFo,awN,aun,aHs,av4,aE0,aN4,aOQ,auM,aDZ,aYm]
theorem ayF:aN Try.prog (aZ (apl)):=sc vH ([]) Wy ([]) (by kernel_rfl) (by kernel_rfl)
def Ze:Nl:=nc ayF Wy
def aMA:=fb ([u7,tf]) qr<|ak fun F p0 p1=>by
 try simp only[aa]at *
 omega
def aRA:=fb ([u7,tf,AY,(.not CU)]) BU<|aj fun F p0 p1 p2 p3=>by
 have:=@zr F bG _ _ au (fn 1 (pr (fn 1 (pr aJ _)) (fn 6 (pr (fn 8 (pr cw _)) _)))) rfl
 have:=@wm F (fn 1 (pr (fn 1 (pr aJ (.int 0))) (fn 6 (pr (fn 8 (pr cw (.int 12))) (.int 1))))) au
 try simp only[aa]at *
 grind
def aJ0:=fb ([u7,tf,AY,CU,F9,(.not M8),(.not alG)]) BU<|bb fun F p0 p1 p2 p3 p4 p5 p6=>by
 have:=@zr F bG _ _ au (fn 1 (pr (fn 1 (pr aJ _)) (fn 6 (pr (fn 8 (pr cw _)) _)))) rfl
 have:=@zc F (fn 1 (pr (fn 1 (pr aJ (.int 0))) (fn 6 (pr (fn 8 (pr cw (.int 12))) (.int 1))))) au
 try simp only[aa]at *
 grind
def aTZ:=fb ([u7,tf,AY,CU,F9,(.not M8),alG]) (cmp .eql (fn 1 (pr au (fn 6 (pr (fn 8 (pr (fn 1 (pr (fn 1 (pr aJ (.int 0))) (fn 6 (pr (fn 8 (pr cw (.int 12))) (.int 1))))) (.int 14))) (.int 7))))) (fn 150 (pr au (pr aJ bG))))<|bb fun F p0 p1 p2 p3 p4 p5 p6=>by
 have:=@zr F bG _ _ au (fn 1 (pr (fn 1 (pr aJ _)) (fn 6 (pr (fn 8 (pr cw _)) _)))) rfl
 have:=@zc F (fn 1 (pr (fn 1 (pr aJ (.int 0))) (fn 6 (pr (fn 8 (pr cw (.int 12))) (.int 1))))) au
 try simp only[aa]at *
 grind
def aNM:=fb ([u7,tf,AY,CU,F9,M8]) BU<|be fun F p0 p1 p2 p3 p4 p5=>by
 have:=@zr F bG _ _ au (fn 1 (pr (fn 1 (pr aJ _)) (fn 6 (pr (fn 8 (pr cw _)) _)))) rfl
 have:=@zc F (fn 1 (pr (fn 1 (pr aJ (.int 0))) (fn 6 (pr (fn 8 (pr cw (.int 12))) (.int 1))))) au
 try simp only[aa]at *
 grind
def aD3:=fb ([u7,tf,AY,CU,(.not F9)]) BU<|aB fun F p0 p1 p2 p3 p4=>by
 have:=@zr F bG _ _ au (fn 1 (pr (fn 1 (pr aJ _)) (fn 6 (pr (fn 8 (pr cw _)) _)))) rfl
 have:=@zc F (fn 1 (pr (fn 1 (pr aJ (.int 0))) (fn 6 (pr (fn 8 (pr cw (.int 12))) (.int 1))))) au
 try simp only[aa]at *
 grind
def aLW:=fb ([u7,tf,anA]) BU<|af fun F p0 p1 p2=>by
 have:=@zr F bG _ _ au (fn 1 (pr (fn 1 (pr aJ _)) (fn 6 (pr (fn 8 (pr cw _)) _)))) rfl
 have:=@wm F (fn 1 (pr (fn 1 (pr aJ (.int 0))) (fn 6 (pr (fn 8 (pr cw (.int 12))) (.int 1))))) au
 try simp only[aa]at *
 grind
def uF:List Fa:=[aMA,aRA,aJ0,aTZ,aNM,aD3,aLW]
theorem aLL:aN Try.prog (aZ (aEg)):=sc uF ([]) Ze ([]) (by kernel_rfl) (by kernel_rfl)
def Wu:Nl:=nc aLL Ze
def aGy:=fb ([ti]) DR<|aq fun F p0=>by
 try simp only[aa,ab]at *
 obtain⟨a1,ea1,qa1⟩:=ae ((E.I F K0)+(1))
 omega
def aq8:=fb ([ti,kK,gD,rX]) gq<|aj fun F p0 p1 p2 p3=>by
 try simp only[aa]at *
 omega
def aXx:=fb tD (.not (cmp .lss cZ (.int 0)))<|ak fun F p0 p1=>by
 try simp only[aa]at *
 omega
def aDI:=fb ((.not gq)::gD::HE::ahb) (cmp .eql cZ aJ)<|aj fun F p0 p1 p2 p3=>by
 try simp only[aa]at *
 omega
def aQs:=fb ([gq,ti,kK,gD]) EM<|aj fun F p0 p1 p2 p3=>by
 try simp only[aa,ab]at *
 obtain⟨a3,ea3,qa3⟩:=ae ((E.I F K0)+(1))
 omega
def atM:=fb ([lz,nj]) TX<|ak fun F p0 p1=>by
 try simp only[aa]at *
 omega
def aUF:=fb Hp Ke<|ba fun F p0 p1 p2 p3 p4 p5 p6 p7=>by
 try simp only[aa,ab]at *
 obtain⟨a6,ea6,qa6⟩:=ae ((E.I F aC)+(1))
 omega
def aJc:=fb ([iN,qq]) TX<|ak fun F p0 p1=>by
 try simp only[aa]at *
 omega
def aGk:=fa ((fn 160 (pr aS (pr (fn 1 (pr au K0)) (.int 0)))))<|fun F=>by
 rfl
def aCC:=fb ((.not gq)::Lk::ahb) (fn 152 (pr aS (pr au aJ)))<|af fun F p0 p1 p2=>by
 have:=@ap2 F _ _ _ aJ p1
 try simp only[aa]at *
 grind
def an1:=fb ([ti]) Wo<|aq fun F p0=>by
 try simp only[aa,ab]at *
 obtain⟨a1,ea1,qa1⟩:=ae ((E.I F K0)+(1))
 omega
def aOu:=fa ((.not (cmp .lss cZ (fn 6 (pr aC (fn 7 (pr cZ aC)))))))<|fun F=>by
 try simp only[aa]at *
 omega
def axQ:=fb Hp (.not (cmp .lss cZ fL))<|ba fun F p0 p1 p2 p3 p4 p5 p6 p7=>by
 try simp only[aa,ab]at *
 obtain⟨a6,ea6,qa6⟩:=ae ((E.I F aC)+(1))
 omega
def aTG:=fb ([gq,ti,kK,gD,rX]) Uq<|aB fun F p0 p1 p2 p3 p4=>by
 have:=@am F K0 (.int 1)
 have:=@axr F _ (.int 0) _ iI (fn 1 (pr au K0)) rfl
 try simp only[aa]at *
 grind
def aFe:=fb ([lz,nj]) Zk<|ak fun F p0 p1=>by
 try simp only[aa]at *
 omega
def aRw:=fb (iN::RS::gq::kK::P0::TI) (fn 160 (pr aS (pr (fn 1 (pr au K0)) fL)))<|ba fun F p0 p1 p2 p3 p4 p5 p6 p7=>by
 have:=@am F aC (.int 1)
 have:=@aRx F aS aC fL (fn 1 (pr au K0))
 try simp only[aa]at *
 grind
def aQu:=fb ([gq,kK,gD,rX,mN,HE]) Zk<|be fun F p0 p1 p2 p3 p4 p5=>by
 try simp only[aa]at *
 omega
def aXh:=fb ([ti]) yE<|aq fun F p0=>by
 try simp only[aa,ab]at *
 obtain⟨a2,ea2,qa2⟩:=ae ((E.I F K0)+(1))
 omega
def az7:=fb (lz::nj::WJ) NR<|aj fun F p0 p1 p2 p3=>by
 try simp only[aa]at *
 omega
def aqT:=fb ([BJ]) NR<|aq fun F p0=>by
 try simp only[aa]at *
 omega
def aR3:=fb Hp (cmp .lss (fn 7 (pr cZ fL)) (fn 7 (pr cZ aC)))<|ba fun F p0 p1 p2 p3 p4 p5 p6 p7=>by
 try simp only[aa,ab]at *
 obtain⟨a6,ea6,qa6⟩:=ae ((E.I F aC)+(1))
 omega
def aKh:=fb (iN::WJ) NR<|af fun F p0 p1 p2=>by
 try simp only[aa]at *
 omega
def aqI:=fb ([gq,ti,kK,gD]) yC<|aj fun F p0 p1 p2 p3=>by
 try simp only[aa,ab]at *
 obtain⟨a3,ea3,qa3⟩:=ae ((E.I F K0)+(1))
 omega
def aF5:=fb (lz::ajj) afV<|ba fun F p0 p1 p2 p3 p4 p5 p6 p7=>by
 try simp only[aa]at *
 omega
def ard:=fb Hp (.not (cmp .lss (fn 7 (pr cZ fL)) (.int 0)))<|ba fun F p0 p1 p2 p3 p4 p5 p6 p7=>by
 try simp only[aa,ab]at *
 obtain⟨a6,ea6,qa6⟩:=ae ((E.I F aC)+(1))
 omega
def aEG:=fb (iN::Qj) afV<|bb fun F p0 p1 p2 p3 p4 p5 p6=>by
 try simp only[aa]at *
 omega
def aQR:=fb ([lz,nj]) ajk<|ak fun F p0 p1=>by
 try simp only[aa]at *
 omega
def aVj:=fb (lz::BJ::ajj) (.not (cmp .lss (.int 2147483648) (fn 6 (pr aC (.int 1)))))<|bh fun F p0 p1 p2 p3 p4 p5 p6 p7 p8=>by
 try simp only[aa]at *
 omega
def aW0:=fb ([iN,qq]) ajk<|ak fun F p0 p1=>by
 try simp only[aa]at *
 omega
def avH:=fb NK amo<|af fun F p0 p1 p2=>by
 try simp only[aa]at *
 omega
def aHy:=fb qe Uc<|aB fun F p0 p1 p2 p3 p4=>by
 try simp only[aa]at *
 omega
def aYa:=fb Qj (.not (cmp .lss (.int 2147483648) (fn 6 (pr aC (fn 6 (pr (fn 7 (pr cZ aC)) (.int 1)))))))<|be fun F p0 p1 p2 p3 p4 p5=>by
 try simp only[aa]at *
 omega
def ar3:=fb Sj amo<|af fun F p0 p1 p2=>by
 try simp only[aa]at *
 omega
def ayV:=fb ([iN,pa,qq]) Uc<|af fun F p0 p1 p2=>by
 try simp only[aa]at *
 omega
def aoF:=fb NK yE<|af fun F p0 p1 p2=>by
 try simp only[aa]at *
 omega
def aoy:=fb qe DR<|aB fun F p0 p1 p2 p3 p4=>by
 try simp only[aa]at *
 omega
def aOz:=fb PJ DR<|be fun F p0 p1 p2 p3 p4 p5=>by
 try simp only[aa,ab]at *
 obtain⟨a4,ea4,qa4⟩:=ae ((E.I F K0)+(1))
 omega
def aI0:=fb (lz::BJ::pa::nj::tD) Wo<|be fun F p0 p1 p2 p3 p4 p5=>by
 try simp only[aa]at *
 omega
def aJU:=fb Sj yE<|af fun F p0 p1 p2=>by
 try simp only[aa]at *
 omega
def aM7:=fb Oq DR<|ba fun F p0 p1 p2 p3 p4 p5 p6 p7=>by
 try simp only[aa,ab]at *
 obtain⟨a6,ea6,qa6⟩:=ae ((E.I F K0)+(1))
 omega
def aub:=fb NK yC<|af fun F p0 p1 p2=>by
 try simp only[aa]at *
 omega
def aMm:=fb qe EM<|aB fun F p0 p1 p2 p3 p4=>by
 try simp only[aa]at *
 omega
def aED:=fb (gq::gD::tD) EM<|aj fun F p0 p1 p2 p3=>by
 try simp only[aa,ab]at *
 obtain⟨a4,ea4,qa4⟩:=ae ((E.I F K0)+(1))
 omega
def axZ:=fb qe Uq<|aB fun F p0 p1 p2 p3 p4=>by
 try simp only[aa]at *
 grind
def asg:=fb (lz::BJ::gq::kK::gD::rX::P1) (cmp .eql (fn 6 (pr aC (.int 1))) iI)<|bE fun F p0 p1 p2 p3 p4 p5 p6 p7 p8 p9=>by
 try simp only[aa,ab]at *
 obtain⟨a7,ea7,qa7⟩:=ae ((E.I F K0)+(1))
 omega
def aDU:=fb Sj yC<|af fun F p0 p1 p2=>by
 try simp only[aa]at *
 omega
def aCt:=fb akC EM<|be fun F p0 p1 p2 p3 p4 p5=>by
 try simp only[aa,ab]at *
 obtain⟨a6,ea6,qa6⟩:=ae ((E.I F K0)+(1))
 omega
def aCW:=fb qe aa2<|aB fun F p0 p1 p2 p3 p4=>by
 try simp only[aa]at *
 omega
def aAm:=fb PJ (cmp .eql (fn 6 (pr aC (fn 6 (pr (fn 7 (pr cZ aC)) (.int 1))))) iI)<|be fun F p0 p1 p2 p3 p4 p5=>by
 try simp only[aa,ab]at *
 obtain⟨a5,ea5,qa5⟩:=ae ((E.I F K0)+(1))
 omega
def aOM:=fb (lz::BJ::P1) (cmp .eql (fn 6 (pr (fn 0 (fn 4 (pr aS (pr (.int 0) aC)))) (.int 1))) (fn 6 (pr aC (.int 1))))<|be fun F p0 p1 p2 p3 p4 p5=>by
 have:=@uQ F aS (.int 0) aC
 try simp only[aa]at *
 omega
def aRb:=fb Oq aa2<|ba fun F p0 p1 p2 p3 p4 p5 p6 p7=>by
 try simp only[aa,ab]at *
 obtain⟨a6,ea6,qa6⟩:=ae ((E.I F K0)+(1))
 omega
def aPa:=fb qe amy<|aB fun F p0 p1 p2 p3 p4=>by
 try simp only[aa]at *
 omega
def aIj:=fb (lz::P1) agw<|aB fun F p0 p1 p2 p3 p4=>by
 have:=@uQ F aS (.int 0) aC
 have:=@uQ F aS aC (fn 6 (pr aC (fn 7 (pr cZ aC))))
 try simp only[aa]at *
 omega
def aWk:=fb ac1 (fn 152 (pr (fn 3 (pr (fn 4 (pr aS (pr (.int 0) aC))) (fn 23 (pr (fn 1 (pr au K0)) (fn 10 (.int 0)))))) KA))<|bE fun F p0 p1 p2 p3 p4 p5 p6 p7 p8 p9=>by
 have:=@am F K0 (.int 1)
 have:=@EX F _ _ _ _ iI _ (fn 0 aS) p7 p4 rfl
 try simp only[aa]at *
 grind
def awz:=fb ([iN,pa,qq]) amy<|af fun F p0 p1 p2=>by
 have:=@uQ F aS aC (fn 6 (pr aC (fn 7 (pr cZ aC))))
 try simp only[aa]at *
 omega
def aUu:=fb ([iN,mN,qq]) agw<|af fun F p0 p1 p2=>by
 have:=@uQ F aS (.int 0) aC
 have:=@uQ F aS aC (fn 6 (pr aC (fn 7 (pr cZ aC))))
 try simp only[aa]at *
 omega
def ayL:=fb qe ahw<|aB fun F p0 p1 p2 p3 p4=>by
 try simp only[aa]at *
 grind
def aLC:=fb ac1 UX<|bE fun F p0 p1 p2 p3 p4 p5 p6 p7 p8 p9=>by
 have:=@am F K0 (.int 1)
 have:=@EX F _ _ _ _ iI _ (fn 6 (pr aC (fn 7 (pr cZ aC)))) p7 p4 rfl
 try simp only[aa]at *
 grind
def aGd:=fb (iN::(.not RS)::pa::abe) ahw<|dH fun F p0 p1 p2 p3 p4 p5 p6 p7 p8 p9 ai=>by
 have:=@am F K0 (.int 1)
 have:=@EX F _ _ _ _ iI _ (fn 6 (pr aC (fn 7 (pr cZ aC)))) p8 p6 rfl
 try simp only[aa]at *
 grind
def aur:=fb (iN::(.not RS)::abe) UX<|bE fun F p0 p1 p2 p3 p4 p5 p6 p7 p8 p9=>by
 have:=@am F K0 (.int 1)
 have:=@EX F _ _ _ _ iI _ (fn 6 (pr aC (fn 7 (pr cZ aC)))) p7 p5 rfl
 try simp only[aa]at *
 grind
def aRB:=fb qe yE<|aB fun F p0 p1 p2 p3 p4=>by
 try simp only[aa]at *
 omega
def aIL:=fb PJ yE<|be fun F p0 p1 p2 p3 p4 p5=>by
 try simp only[aa,ab]at *
 obtain⟨a4,ea4,qa4⟩:=ae ((E.I F K0)+(1))
 omega
def aWZ:=fb Oq yE<|ba fun F p0 p1 p2 p3 p4 p5 p6 p7=>by
 try simp only[aa,ab]at *
 obtain⟨a6,ea6,qa6⟩:=ae ((E.I F K0)+(1))
 omega
def aMK:=fb qe yC<|aB fun F p0 p1 p2 p3 p4=>by
 try simp only[aa]at *
 omega
def aVy:=fb (gq::gD::tD) yC<|aj fun F p0 p1 p2 p3=>by
 try simp only[aa,ab]at *
 obtain⟨a4,ea4,qa4⟩:=ae ((E.I F K0)+(1))
 omega
def aOK:=fb akC yC<|be fun F p0 p1 p2 p3 p4 p5=>by
 try simp only[aa,ab]at *
 obtain⟨a6,ea6,qa6⟩:=ae ((E.I F K0)+(1))
 omega
def vU:List Fa:=[aGy,aq8,aXx,aDI,aQs,atM,aUF,aJc,aGk,aCC,an1,aOu,axQ,aTG,aFe,aRw,aQu,aXh,az7,aqT,aR3,aKh,aqI,aF5,ard,aEG,aQR,aVj,aW0,avH,aHy,aYa,ar3,ayV,aoF,aoy,aOz,aI0,aJU,aM7,aub,aMm,aED,axZ,asg,aDU,aCt,aCW,aAm,aOM,aRb,aPa,aIj,aWk,awz,aUu,ayL,aLC,aGd,aur,aRB,aIL,aWZ,aMK,aVy,aOK]
theorem axK:aN Try.prog (aZ (aLm)):=sc vU (atu) Wu ([]) (by kernel_rfl) (by kernel_rfl)
def akg:Nl:=nc axK Wu
def aro:=fb ([(.not Lv)]) acz<|aq fun F p0=>by
 simp_all
def aI3:=fb ([Lv]) At<|aq fun F p0=>by
 try simp only[aa]at *
 omega
def arP:=fa ((fn 161 (pr au (pr cw (.int 0)))))<|fun F=>by
 rfl
def aK8:=fb (Bz::UB) (cmp .lss aS f0)<|aj fun F p0 p1 p2 p3=>by
 try simp only[aa]at *
 omega
def aLf:=fb ([(.not Bz),aeM,(.not (cmp .lss aJ aS)),At]) (.iff (.bool true) ahZ)<|aj fun F p0 p1 p2 p3=>by
 have:=@aHB F _ _ _ aJ p1
 try simp only[aa]at *
 grind
def aM5:=fb (Bz::(.not WA)::zq::UB) acz<|be fun F p0 p1 p2 p3 p4 p5=>by
 have:=@aVa F au cw aS aJ
 try simp only[aa]at *
 grind
def aLZ:=fb Jp aa9<|bb fun F p0 p1 p2 p3 p4 p5 p6=>by
 try simp only[aa,ab]at *
 obtain⟨a5,ea5,qa5⟩:=ae ((E.I F aS)+(1))
 omega
def aIP:=fb Jp (.not (cmp .lss aJ jD))<|bb fun F p0 p1 p2 p3 p4 p5 p6=>by
 try simp only[aa,ab]at *
 obtain⟨a5,ea5,qa5⟩:=ae ((E.I F aS)+(1))
 omega
def aAS:=fb (Bz::WA::aeM::zq::At::akA::Rs) (fn 161 (pr au (pr cw jD)))<|ba fun F p0 p1 p2 p3 p4 p5 p6 p7=>by
 have:=@am F aS (.int 1)
 have:=@aVf F _ _ _ jD p2
 try simp only[aa]at *
 grind
def aOn:=fb Jp (cmp .lss (fn 7 (pr aJ jD)) (fn 7 (pr aJ aS)))<|bb fun F p0 p1 p2 p3 p4 p5 p6=>by
 try simp only[aa,ab]at *
 obtain⟨a5,ea5,qa5⟩:=ae ((E.I F aS)+(1))
 omega
def aGp:=fb Jp (.not (cmp .lss (fn 7 (pr aJ jD)) (.int 0)))<|bb fun F p0 p1 p2 p3 p4 p5 p6=>by
 try simp only[aa,ab]at *
 obtain⟨a5,ea5,qa5⟩:=ae ((E.I F aS)+(1))
 omega
def uy:List Fa:=[aro,aI3,arP,aK8,aLf,aM5,aLZ,aIP,aAS,aOn,aGp]
theorem aXY:aN Try.prog (aZ (aDi)):=sc uy (aWg) akg ([]) (by kernel_rfl) (by kernel_rfl)
def afY:Nl:=nc aXY akg
def aPl:=fa ((fn 155 (pr au (.int 0))))<|fun F=>by
 rfl
def aO8:=fb ([zq]) (.imp tJ Xa)<|aq fun F p0=>by
 rfl
def ao5:=fa ((fn 157 (pr (fn 1 (pr au (fn 6 (pr (fn 8 (pr aS (.int 14))) (.int 12))))) (.int 0))))<|fun F=>by
 rfl
def aBp:=fb ([(.not WY),Qr]) amL<|ak fun F p0 p1=>by
 try simp only[aa]at *
 grind
def auW:=fb ([(.not Qr),aek,(.not (cmp .lss (fn 9 (pr au (.int 14))) aS))]) amL<|af fun F p0 p1 p2=>by
 have:=@arm F aS (fn 9 (pr au (.int 14))) au
 try simp only[aa]at *
 grind
def auu:=fb akB Ke<|af fun F p0 p1 p2=>by
 try simp only[aa,ab]at *
 obtain⟨a6,ea6,qa6⟩:=ae ((E.I F aC)+(1))
 omega
def aFb:=fb v6 aa9<|ak fun F p0 p1=>by
 try simp only[aa,ab]at *
 obtain⟨a5,ea5,qa5⟩:=ae ((E.I F aS)+(1))
 omega
def aG4:=fb aeh (.not (cmp .lss (fn 9 (pr (fn 1 (pr au (fn 6 (pr (fn 8 (pr aS (.int 14))) (.int 12))))) (.int 2))) fL))<|aj fun F p0 p1 p2 p3=>by
 try simp only[aa,ab]at *
 obtain⟨a6,ea6,qa6⟩:=ae ((E.I F aC)+(1))
 omega
def ap0:=fb v6 (.not (cmp .lss (.int 13) jD))<|ak fun F p0 p1=>by
 try simp only[aa,ab]at *
 obtain⟨a5,ea5,qa5⟩:=ae ((E.I F aS)+(1))
 omega
def auC:=fb (Iu::(.not (cmp .lss (.int 5) (fn 9 (pr (fn 1 (pr (fn 1 (pr au (fn 6 (pr (fn 8 (pr aS (.int 14))) (.int 12))))) (fn 6 (pr (fn 8 (pr aC (.int 2))) (.int 1))))) (.int 5)))))::amR::R5) (fn 157 (pr (fn 1 (pr au (fn 6 (pr (fn 8 (pr aS (.int 14))) (.int 12))))) fL))<|aB fun F p0 p1 p2 p3 p4=>by
 have:=@am F aC (.int 1)
 have:=@aBn F aC fL (fn 1 (pr au (fn 6 (pr (fn 8 (pr aS (.int 14))) (.int 12)))))
 try simp only[aa]at *
 grind
def aCV:=fb (Qr::v6) (.not (cmp .lss (fn 9 (pr au (.int 14))) jD))<|af fun F p0 p1 p2=>by
 try simp only[aa,ab]at *
 obtain⟨a5,ea5,qa5⟩:=ae ((E.I F aS)+(1))
 omega
def aqD:=fb akB (cmp .lss (fn 7 (pr (fn 9 (pr (fn 1 (pr au (fn 6 (pr (fn 8 (pr aS (.int 14))) (.int 12))))) (.int 2))) fL)) (fn 7 (pr (fn 9 (pr (fn 1 (pr au (fn 6 (pr (fn 8 (pr aS (.int 14))) (.int 12))))) (.int 2))) aC)))<|af fun F p0 p1 p2=>by
 try simp only[aa,ab]at *
 obtain⟨a6,ea6,qa6⟩:=ae ((E.I F aC)+(1))
 omega
def aId:=fb ((.not Iu)::amR::acZ::amg::(.not (cmp .lss (.int 5) (fn 9 (pr (fn 1 (pr au (fn 6 (pr (fn 8 (pr aS (.int 14))) (.int 11))))) (.int 5)))))::aek::v6) (fn 155 (pr au jD))<|ba fun F p0 p1 p2 p3 p4 p5 p6 p7=>by
 have:=@am F aS (.int 1)
 have:=@aJl F aS jD au
 have:=@ux F (fn 1 (pr au (fn 6 (pr (fn 8 (pr aS (.int 14))) (.int 11))))) (fn 1 (pr au (fn 6 (pr (fn 8 (pr aS (.int 14))) (.int 12)))))
 have hy1:E.I F aC=E.I F (fn 9 (pr (fn 1 (pr au (fn 6 (pr (fn 8 (pr aS (.int 14))) (.int 12))))) (.int 2)))->E.B F (fn 157 (pr (fn 1 (pr au (fn 6 (pr (fn 8 (pr aS (.int 14))) (.int 12))))) (fn 9 (pr (fn 1 (pr au (fn 6 (pr (fn 8 (pr aS (.int 14))) (.int 12))))) (.int 2)))))=true:=fun hh=>by simp_all[BE]
 try simp only[aa]at *
 grind
def aFi:=fb aeh (.not (cmp .lss (fn 7 (pr (fn 9 (pr (fn 1 (pr au (fn 6 (pr (fn 8 (pr aS (.int 14))) (.int 12))))) (.int 2))) fL)) (.int 0)))<|aj fun F p0 p1 p2 p3=>by
 try simp only[aa,ab]at *
 obtain⟨a6,ea6,qa6⟩:=ae ((E.I F aC)+(1))
 omega
def aus:=fb v6 (cmp .lss (fn 7 (pr (.int 13) jD)) (fn 7 (pr (.int 13) aS)))<|ak fun F p0 p1=>by
 try simp only[aa,ab]at *
 obtain⟨a5,ea5,qa5⟩:=ae ((E.I F aS)+(1))
 omega
def aGm:=fb v6 (.not (cmp .lss (fn 7 (pr (.int 13) jD)) (.int 0)))<|ak fun F p0 p1=>by
 try simp only[aa,ab]at *
 obtain⟨a5,ea5,qa5⟩:=ae ((E.I F aS)+(1))
 omega
def vC:List Fa:=[aPl,aO8,ao5,aBp,auW,auu,aFb,aG4,ap0,auC,aCV,aqD,aId,aFi,aus,aGm]
theorem aGn:aN Try.prog (aZ (aCR)):=sc vC (aqu) afY ([]) (by kernel_rfl) (by kernel_rfl)
def adz:Nl:=nc aGn afY
def au0:=fb ([Fz]) pn<|aq fun F p0=>by
 rfl
def aBX:=fb ([ahH]) pn<|aq fun F p0=>by
 rfl
def aX9:=fb ([adT]) pn<|aq fun F p0=>by
 rfl
def aJ3:=fb ([agC]) pn<|aq fun F p0=>by
 rfl
def arq:=fb ([afe]) pn<|aq fun F p0=>by
 rfl
def aK3:=fb ([anf]) pn<|aq fun F p0=>by
 rfl
def aCN:=fb ([Zc]) pn<|aq fun F p0=>by
 rfl
def aK9:=fb ([UI]) pn<|aq fun F p0=>by
 rfl
def aIX:=fb ([(.not Fz),(.not ahH),(.not adT),(.not agC),(.not afe),(.not anf),(.not Zc),(.not UI)]) Mj<|ba fun F p0 p1 p2 p3 p4 p5 p6 p7=>by
 have:=@aMW F au
 try simp only[aa]at *
 grind
def aMj:=fb ([(.not Fz)]) (.imp tJ Lo)<|aq fun F p0=>by
 rfl
def awh:=fb ([(.not Fz)]) (.imp tJ Qo)<|aq fun F p0=>by
 rfl
def aqN:=fb ([Mj]) pn<|aq fun F p0=>by
 rfl
def axg:=fb ([Gm]) Gm<|aq fun F p0=>by
 omega
def aUA:=fb ([ag6,(.not (cmp .lss (.int 30) (fn 9 (pr (fn 1 (pr au (.int 0))) (.int 12))))),(.not (cmp .lss (.int 30) (fn 0 (fn 1 (pr au (.int 31)))))),Mw,Gm,Mj]) (.imp (.not (cmp .lss (.int 30) (fn 9 (pr (fn 1 (pr au (.int 32))) (.int 2))))) (fn 117 au))<|be fun F p0 p1 p2 p3 p4 p5=>by
 have:=@RX F au
 try simp only[aa]at *
 grind
def aqF:=fb ([Mw]) Mw<|aq fun F p0=>by
 omega
def aUq:=fa ((fn 158 (pr (fn 1 (pr au (.int 29))) (.int 0))))<|fun F=>by
 rfl
def aHn:=fa ((fn 158 (pr (fn 1 (pr au (.int 30))) (.int 0))))<|fun F=>by
 rfl
def aQ2:=fb an4 Ke<|af fun F p0 p1 p2=>by
 try simp only[aa,ab]at *
 obtain⟨a4,ea4,qa4⟩:=ae ((E.I F aC)+(1))
 omega
def aIR:=fb ((.not Da)::aaP::(.not (cmp .lss (fn 9 (pr (fn 1 (pr au (.int 29))) (.int 5))) aC))::P9) ajv<|aj fun F p0 p1 p2 p3=>by
 have:=@adM F (fn 1 (pr au (.int 29))) aC (fn 9 (pr (fn 1 (pr au (.int 29))) (.int 5)))
 try simp only[aa]at *
 grind
def aTT:=fb ahK Ke<|af fun F p0 p1 p2=>by
 try simp only[aa,ab]at *
 obtain⟨a4,ea4,qa4⟩:=ae ((E.I F aC)+(1))
 omega
def aUY:=fb ([(cmp .eql aS (.int 1)),Gm]) ajv<|ak fun F p0 p1=>by
 try simp only[aa]at *
 simp_all
def axp:=fb ([Da,mN]) (.not (cmp .lss (fn 9 (pr (fn 1 (pr au (.int 29))) (.int 5))) fL))<|ak fun F p0 p1=>by
 try simp only[aa,ab]at *
 obtain⟨a4,ea4,qa4⟩:=ae ((E.I F aC)+(1))
 omega
def asW:=fb ([(.not (cmp .lss (.int 2) aS)),zq,(cmp .eql aS (.int 0))]) aij<|af fun F p0 p1 p2=>by
 try simp only[aa,ab]at *
 obtain⟨a3,ea3,qa3⟩:=ae ((E.I F aS)+(1))
 omega
def av6:=fb ((.not O0)::UR::(.not (cmp .lss (fn 9 (pr (fn 1 (pr au (.int 30))) (.int 5))) aC))::ajZ) aij<|aj fun F p0 p1 p2 p3=>by
 have:=@adM F (fn 1 (pr au (.int 30))) aC (fn 9 (pr (fn 1 (pr au (.int 30))) (.int 5)))
 try simp only[aa]at *
 grind
def axf:=fb (Da::(.not (cmp .lss (.int 6) (fn 9 (pr (fn 1 (pr (fn 1 (pr au (.int 29))) (fn 6 (pr (fn 8 (pr aC (.int 5))) (.int 4))))) (.int 2)))))::mN::aaP::P9) (fn 158 (pr (fn 1 (pr au (.int 29))) fL))<|aB fun F p0 p1 p2 p3 p4=>by
 have:=@am F aC (.int 1)
 have:=@ak4 F (fn 1 (pr au (.int 29))) aC fL
 try simp only[aa]at *
 grind
def aNU:=fb (O0::(.not (cmp .lss (.int 6) (fn 9 (pr (fn 1 (pr (fn 1 (pr au (.int 30))) (fn 6 (pr (fn 8 (pr aC (.int 5))) (.int 4))))) (.int 2)))))::UR::akN) (fn 158 (pr (fn 1 (pr au (.int 30))) fL))<|aB fun F p0 p1 p2 p3 p4=>by
 have:=@am F aC (.int 1)
 have:=@ak4 F (fn 1 (pr au (.int 30))) aC fL
 try simp only[aa]at *
 grind
def awn:=fb an4 (cmp .lss (fn 7 (pr (fn 9 (pr (fn 1 (pr au (.int 29))) (.int 5))) fL)) (fn 7 (pr (fn 9 (pr (fn 1 (pr au (.int 29))) (.int 5))) aC)))<|af fun F p0 p1 p2=>by
 try simp only[aa,ab]at *
 obtain⟨a4,ea4,qa4⟩:=ae ((E.I F aC)+(1))
 omega
def avN:=fb ahK (cmp .lss (fn 7 (pr (fn 9 (pr (fn 1 (pr au (.int 30))) (.int 5))) fL)) (fn 7 (pr (fn 9 (pr (fn 1 (pr au (.int 30))) (.int 5))) aC)))<|af fun F p0 p1 p2=>by
 try simp only[aa,ab]at *
 obtain⟨a4,ea4,qa4⟩:=ae ((E.I F aC)+(1))
 omega
def aum:=fb ([Da,mN]) (.not (cmp .lss (fn 7 (pr (fn 9 (pr (fn 1 (pr au (.int 29))) (.int 5))) fL)) (.int 0)))<|ak fun F p0 p1=>by
 try simp only[aa,ab]at *
 obtain⟨a4,ea4,qa4⟩:=ae ((E.I F aC)+(1))
 omega
def tM:List Fa:=[au0,aBX,aX9,aJ3,arq,aK3,aCN,aK9,aIX,aMj,awh,aqN,axg,aUA,aqF,aUq,aHn,G74,G79,G85,G90,aQ2,aIR,aTT,aUY,axp,asW,UK,av6,axf,anj,aNU,aml,awn,aag,avN,XP,aum,Ya]
theorem aqc:aN Try.prog (aZ (axo)):=sc tM (aDx) adz ([]) (by kernel_rfl) (by kernel_rfl)
def aaq:Nl:=nc aqc adz
end
end Go.Proofs.Ytnnbmcfabojjjaa.payPlans
