/-
  PayColours: contracts of functions, part 6.
-/
import Derived.Test.YtnnbmcfabojjjaaRows
import Derived.Test.YtnnbmcfabojjjaaNat
import Derived.WalkKit
import Derived.ProofKit
import Derived.OpenShut
import Derived.ChangeOld
import Derived.Below
import Derived.KernelRfl
import Derived.Lib.SmallJoins
import Derived.Laws.IdiomArrays
import Derived.Test.YtnnbmcfabojjjaaPayColoursParte
namespace Go.Proofs.Ytnnbmcfabojjjaa.payColours
open Go.ChangeShapes Go.WideShapes Go.ChangeAt Go.RowKit
open Go.SX
open Go.SX.E (fn pr cmp var)
set_option linter.unusedVariables false
set_option linter.unusedSimpArgs false
set_option maxRecDepth 100000
noncomputable section
abbrev K0:E:=var 11
abbrev K1:E:=var 12
abbrev K2:E:=fn 156 (pr K0 K1)
abbrev K3:E:=var 41
abbrev K4:E:=var 42
abbrev K5:E:=pr K3 K4
abbrev K6:E:=fn 157 K5
abbrev K7:E:=var 44
abbrev K8:E:=cmp .lss K7 K4
abbrev K9:E:=cmp .lss K7 (.int 0)
abbrev K10:E:=.not K9
abbrev Fs:=[K10]
abbrev ka:E:=var 14
abbrev K13:E:=cmp .eql ka (fn 9 (pr K1 (.int 2)))
abbrev K14:=[K13]
abbrev K15:E:=cmp .lss ka (.int 0)
abbrev P2:E:=.not K15
abbrev iF:E:=var 17
abbrev K18:E:=cmp .eql iF (fn 9 (pr K1 (.int 2)))
abbrev VF:=[K18]
abbrev K20:E:=cmp .lss (.int 3) K4
abbrev QB:E:=.not K20
abbrev K22:=QB::Fs
abbrev SQ:=K8::K22
abbrev Qc:=K2::K14
abbrev Wl:=K2::VF
abbrev K26:E:=.not (cmp .lss K4 K7)
abbrev K27:=K26::Fs
abbrev K28:=QB::K27
abbrev Tb:=K8::K28
abbrev QU:=K6::Fs
abbrev ay:E:=var 2
abbrev Ek:E:=cmp .lss ay (.int 0)
abbrev aq:E:=var 0
abbrev K34:E:=cmp .eql (fn 141 (pr aq ay)) (.int 0)
abbrev ff:E:=.not Ek
abbrev xn:E:=cmp .lss ay (fn 9 (pr aq (.int 14)))
abbrev K37:E:=cmp .eql (fn 142 (pr aq ay)) (.int 0)
abbrev ak:E:=var 1
abbrev K39:E:=cmp .eql ak (.int 1)
abbrev K40:E:=.iff ay (fn 115 aq)
abbrev QA:=[K40]
abbrev Ee:E:=fn 145 (pr aq ak)
abbrev IP:E:=cmp .eql ak (.int 0)
abbrev K44:E:=cmp .lss (.int 20) ay
abbrev ap:E:=var 3
abbrev aI:E:=var 4
abbrev cK:E:=var 5
abbrev gb:E:=var 6
abbrev K49:E:=pr aI (pr cK gb)
abbrev K50:E:=pr ap K49
abbrev K51:E:=pr ay K50
abbrev K52:E:=fn 146 K51
abbrev K53:E:=.and Ee K52
abbrev jB:E:=.iff (.bool false) K53
abbrev nQ:E:=.not K44
abbrev VY:E:=cmp .lss ap (.int 0)
abbrev fM:E:=.not VY
abbrev K58:E:=cmp .lss (.int 20) ap
abbrev rJ:E:=.not K58
abbrev Pg:E:=cmp .lss aI (.int 0)
abbrev qK:E:=.not Pg
abbrev Pv:E:=cmp .lss (.int 20) aI
abbrev xO:E:=.not Pv
abbrev WM:E:=cmp .lss cK (.int 0)
abbrev vD:E:=.not WM
abbrev Dm:E:=cmp .lss (.int 20) cK
abbrev NM:E:=cmp .lss ak (.int 0)
abbrev qg:E:=.not NM
abbrev K69:E:=cmp .lss (.int 1) ak
abbrev KW:E:=cmp .lss gb (.int 0)
abbrev K71:E:=cmp .lss (.int 20) gb
abbrev dG:E:=var 7
abbrev nD:E:=fn 117 ak
abbrev aV:E:=var 19
abbrev ez:E:=cmp .lss aV (fn 9 (pr (fn 1 (pr ak (.int 0))) (.int 12)))
abbrev rx:E:=.not (cmp .lss aV (.int 0))
abbrev Jo:=[ez,rx]
abbrev M0:=nD::Jo
abbrev K79:E:=cmp .lss (fn 9 (pr (fn 1 (pr ak (.int 0))) (.int 12))) aV
abbrev IQ:E:=.not K79
abbrev K81:E:=cmp .lss aV iF
abbrev YF:E:=.not K81
abbrev Ql:=[YF]
abbrev K84:E:=pr ay aV
abbrev K85:E:=pr ak K84
abbrev NT:E:=pr aq K85
abbrev Ep:E:=fn 143 (pr (fn 10 (.int 0)) NT)
abbrev K88:E:=pr ay (fn 9 (pr (fn 1 (pr ak (.int 0))) (.int 12)))
abbrev K89:E:=pr ak K88
abbrev XD:E:=pr aq K89
abbrev pb:E:=var 16
abbrev Sq:E:=cmp .eql (fn 0 pb) (fn 8 (pr iF (.int 2)))
abbrev tR:E:=var 18
abbrev K94:E:=pr pb NT
abbrev K95:E:=fn 143 K94
abbrev cb:E:=var 27
abbrev fG:E:=cmp .eql cb (fn 142 (pr aq (fn 1 (pr (fn 1 (pr ak (.int 0))) (fn 6 (pr (fn 8 (pr aV (.int 12))) (.int 1)))))))
abbrev lN:E:=cmp .eql (var 21) (fn 141 (pr aq (fn 1 (pr (fn 1 (pr ak (.int 0))) (fn 6 (pr (fn 8 (pr aV (.int 12))) (.int 1)))))))
abbrev io:E:=cmp .eql (fn 1 (pr (fn 1 (pr ak (.int 0))) (fn 6 (pr (fn 8 (pr aV (.int 12))) (.int 2))))) ay
abbrev ik:E:=.not (fn 1 (pr (fn 1 (pr ak (.int 0))) (fn 6 (pr (fn 8 (pr aV (.int 12))) (.int 9)))))
abbrev lr:E:=cmp .eql (var 21) (.int 1)
abbrev sG:E:=cmp .lss cb (.int 4)
abbrev ayO:E:=cmp .lss (.int 1) ay
abbrev WC:E:=.not ayO
abbrev qO:=[Ep,rx,WC,ff,nD]
abbrev CC:E:=pr aq (pr ak (pr ay (.ar .add .i64 aV (.int 1))))
abbrev rN:E:=fn 143 (pr (fn 10 (.int 0)) CC)
abbrev IM:E:=cmp .lss cb (.int 0)
abbrev aG1:=rx::Ql
abbrev aG3:=ez::aG1
abbrev JN:=nD::aG3
abbrev rK:E:=cmp .eql ay (.int 0)
abbrev C8:E:=.not rK
abbrev eE:E:=var 34
abbrev zp:E:=cmp .lss eE (.int 0)
abbrev ki:E:=.not zp
abbrev Bf:E:=.iff ki (fn 114 (pr (fn 1 (pr ak (.int 22))) (fn 1 (pr (fn 1 (pr ak (.int 0))) (fn 6 (pr (fn 8 (pr aV (.int 12))) (.int 0)))))))
abbrev CH:E:=.iff ki (fn 114 (pr (fn 1 (pr ak (.int 8))) (fn 1 (pr (fn 1 (pr ak (.int 0))) (fn 6 (pr (fn 8 (pr aV (.int 12))) (.int 0)))))))
abbrev aph:E:=cmp .lss iF (.int 1)
abbrev aAc:E:=.not aph
abbrev aEP:=[aAc]
abbrev azI:=YF::aEP
abbrev ayJ:=K95::azI
abbrev OB:=nD::ayJ
abbrev pS:=rx::WC::ff::OB
abbrev qq:E:=fn 143 (pr pb CC)
abbrev Zn:=rx::OB
abbrev DZ:E:=.not IM
abbrev aDD:E:=pr (fn 23 (pr (fn 1 (pr (fn 1 (pr ak (.int 0))) (fn 6 (pr (fn 8 (pr aV (.int 12))) (.int 0))))) (fn 23 (pr cb (fn 10 (.int 0)))))) CC
abbrev Wy:E:=fn 143 aDD
abbrev akz:E:=pr (fn 3 (pr pb (fn 23 (pr (fn 1 (pr (fn 1 (pr ak (.int 0))) (fn 6 (pr (fn 8 (pr aV (.int 12))) (.int 0))))) (fn 23 (pr cb (fn 10 (.int 0)))))))) CC
abbrev W2:E:=fn 143 akz
abbrev cY:E:=var 8
abbrev rS:E:=cmp .lss cY ak
abbrev WN:E:=cmp .eql (fn 1 (pr aq (fn 6 (pr (fn 8 (pr cY (.int 2))) (.int 1))))) ap
abbrev Gu:E:=cmp .eql (fn 175 (pr ap (pr aq cY))) (.int (-1))
abbrev aBq:E:=cmp .lss cY (.int 0)
abbrev Ky:E:=.not aBq
abbrev qk:E:=cmp .eql (fn 0 aq) (fn 8 (pr ak (.int 2)))
abbrev aek:=[Ky,qk]
abbrev kZ:E:=.not (cmp .lss (.int 30) ak)
abbrev aeB:=[Ky,kZ]
abbrev U0:=rS::aeB
abbrev aDq:E:=cmp .lss ak cY
abbrev Wz:E:=.not aDq
abbrev YE:=[Wz]
abbrev aru:=Wz::aeB
abbrev aaz:=rS::aru
abbrev adb:E:=cmp .eql (fn 175 (pr (.int (-1)) (pr aq cY))) (.int (-1))
abbrev kH:E:=cmp .eql aI (.ar .add .i64 ap (.int 1))
abbrev hG:E:=cmp .lss ap ak
abbrev yO:E:=.not (cmp .lss ay ak)
abbrev ai2:=[hG,fM,kZ,yO,qg]
abbrev RH:=kH::ai2
abbrev mP:=[kH,hG,fM,kZ,qg]
abbrev eX:=[hG,(cmp .eql ak ap)]
abbrev acO:E:=cmp .eql ak (fn 7 (pr ak (.int 1)))
abbrev AQ:E:=cmp .lss ay ap
abbrev qe:E:=.not AQ
abbrev afd:E:=cmp .eql ay aI
abbrev Pl:=[afd]
abbrev XH:=yO::Pl
abbrev aqx:=hG::XH
abbrev Sh:=kH::aqx
abbrev vX:E:=pr aq ap
abbrev Ua:E:=fn 186 (pr aq vX)
abbrev Ia:E:=cmp .lss ak ap
abbrev Jg:E:=.not Ia
abbrev awY:E:=cmp .lss (fn 7 (pr ak aI)) (.int 0)
abbrev O5:E:=.not awY
abbrev adQ:=qk::XH
abbrev aDC:E:=cmp .lss (.int 2147483648) ap
abbrev Ot:E:=.not aDC
abbrev ath:E:=cmp .lss ak (fn 6 (pr aI (fn 7 (pr ak aI))))
abbrev adA:E:=.not ath
abbrev aBU:E:=cmp .lss (.int 2147483648) (fn 6 (pr ap (fn 7 (pr ak aI))))
abbrev U8:E:=.not aBU
abbrev aD6:E:=cmp .lss (fn 6 (pr ap (fn 7 (pr ak aI)))) (.int 0)
abbrev Su:E:=.not aD6
abbrev Qx:E:=cmp .eql (fn 7 (pr ak ap)) (.int 1)
abbrev aGN:=qg::Pl
abbrev aeX:=yO::aGN
abbrev aip:=kZ::aeX
abbrev aFX:=fM::aip
abbrev agr:=hG::aFX
abbrev Ou:=kH::agr
abbrev aE6:E:=cmp .lss ak (fn 6 (pr ap (fn 7 (pr ak aI))))
abbrev abV:E:=.not aE6
abbrev YN:E:=cmp .eql (fn 7 (pr ak (fn 6 (pr ap (fn 7 (pr ak aI)))))) (.int 1)
abbrev Tk:E:=cmp .eql ap (fn 7 (pr ak (.int 1)))
abbrev O2:E:=cmp .lss (fn 6 (pr ap (fn 7 (pr ak aI)))) ay
abbrev Rm:E:=cmp .eql (fn 6 (pr (fn 0 (fn 18 (pr aq (fn 8 (pr ap (.int 2)))))) (fn 0 (fn 18 (pr aq (fn 8 (pr (.int 0) (.int 2)))))))) (fn 8 (pr ap (.int 2)))
abbrev aiD:=kZ::adQ
abbrev apd:=fM::aiD
abbrev afy:=hG::apd
abbrev aa7:=kH::afy
abbrev aaH:E:=cmp .eql (fn 6 (pr ap (fn 7 (pr ak aI)))) (fn 7 (pr ak (.int 1)))
abbrev auG:E:=pr (fn 3 (pr (fn 18 (pr aq (fn 8 (pr ap (.int 2))))) (fn 18 (pr aq (fn 8 (pr (.int 0) (.int 2))))))) vX
abbrev Tf:E:=fn 186 auG
abbrev PI:E:=cmp .eql (fn 6 (pr (fn 0 (fn 18 (pr aq (fn 8 (pr ap (.int 2)))))) (fn 0 (fn 4 (pr aq (pr (fn 8 (pr aI (.int 2))) (fn 8 (pr (fn 6 (pr aI (fn 7 (pr ak aI)))) (.int 2))))))))) (fn 8 (pr (fn 6 (pr ap (fn 7 (pr ak aI)))) (.int 2)))
abbrev anx:E:=pr (fn 3 (pr (fn 18 (pr aq (fn 8 (pr ap (.int 2))))) (fn 4 (pr aq (pr (fn 8 (pr aI (.int 2))) (fn 8 (pr (fn 6 (pr aI (fn 7 (pr ak aI)))) (.int 2)))))))) vX
abbrev Pn:E:=fn 186 anx
abbrev ce:E:=var 10
abbrev Il:E:=cmp .eql K0 (fn 175 (pr ce (pr aI cK)))
abbrev Q0:E:=cmp .lss K0 (.int 0)
abbrev ux:E:=.not Q0
abbrev aD2:E:=cmp .eql ka (fn 7 (pr cK (.int 1)))
abbrev AG:=[aD2]
abbrev RR:E:=.not (cmp .lss gb cK)
abbrev aBo:E:=cmp .lss (.int 30) cK
abbrev MU:E:=.not aBo
abbrev HJ:E:=cmp .eql (fn 0 aI) (fn 8 (pr cK (.int 2)))
abbrev ayL:E:=pr (var 13) (pr aI K0)
abbrev aq7:E:=fn 186 ayL
abbrev axj:=[aq7]
abbrev atZ:=ux::axj
abbrev aAP:=Il::atZ
abbrev adI:=HJ::aAP
abbrev WZ:E:=pr (fn 10 (.int 0)) (.int 0)
abbrev Da:E:=pr aI WZ
abbrev y6:E:=.not (cmp .lss (.int 30) (fn 6 (pr cK cY)))
abbrev Nn:E:=cmp .eql (fn 0 dG) cY
abbrev aDB:E:=cmp .lss cY (.int 1)
abbrev ayW:E:=.not aDB
abbrev Zk:=[ayW]
abbrev aAf:E:=cmp .lss (.int 2147483648) (fn 6 (pr cY (.int 1)))
abbrev Qe:E:=.not aAf
abbrev BZ:E:=pr aI (pr dG (.int 0))
abbrev Lt:E:=cmp .eql K1 (fn 175 (pr (.int (-1)) (pr aI cK)))
abbrev Qn:E:=cmp .lss K1 (.int 0)
abbrev acQ:E:=cmp .eql (fn 175 (pr (.int (-1)) (pr aI cK))) (.int (-1))
abbrev KG:E:=.not Qn
abbrev nd:E:=var 15
abbrev alW:E:=cmp .eql nd (fn 7 (pr cK (.int 1)))
abbrev Dx:=[alW]
abbrev av7:E:=pr ka (pr aI K1)
abbrev aBM:E:=fn 186 av7
abbrev avz:=[aBM]
abbrev arp:=KG::avz
abbrev atc:=Lt::arp
abbrev aco:=HJ::atc
abbrev Gk:E:=pr ap (.int 0)
abbrev IE:E:=pr ay Gk
abbrev Hi:E:=pr ak IE
abbrev dt:E:=fn 188 (pr aq Hi)
abbrev lF:=[ux,dt]
abbrev CD:=[dt,ux]
abbrev yI:E:=cmp .eql ce (.int 0)
abbrev zw:E:=cmp .eql ce (.int 1)
abbrev xa:E:=cmp .eql ce (.int 2)
abbrev aBO:E:=cmp .lss (.int 3) ce
abbrev HV:E:=.not aBO
abbrev alu:E:=cmp .lss ce (.int 0)
abbrev Hs:E:=.not alu
abbrev aBx:=[Hs,dt]
abbrev Xv:=HV::aBx
abbrev akE:=ux::Xv
abbrev ao8:List E:=(.not xa)::akE
abbrev aFP:List E:=(.not zw)::ao8
abbrev PB:List E:=(.not yI)::aFP
abbrev ou:E:=pr aq (pr ak (pr ay (pr ap Da)))
abbrev rM:E:=.not (cmp .lss (.int 20) K0)
abbrev Lo:E:=pr ce (.int 0)
abbrev Xe:E:=pr ap Lo
abbrev aes:E:=pr ay Xe
abbrev hJ:E:=cmp .lss eE K0
abbrev l4:E:=var 28
abbrev vS:E:=var 29
abbrev MR:E:=cmp .eql (fn 175 (pr ce (pr l4 vS))) (.int (-1))
abbrev n6:E:=var 24
abbrev mS:E:=var 25
abbrev mI:E:=var 26
abbrev akk:E:=pr mI (pr cb Lo)
abbrev aDL:E:=pr mS akk
abbrev az0:E:=pr n6 aDL
abbrev Qz:E:=fn 185 az0
abbrev qv:E:=.imp hJ Qz
abbrev aeG:E:=cmp .eql (fn 0 l4) (fn 8 (pr vS (.int 2)))
abbrev aox:E:=pr eE ou
abbrev aeM:E:=pr ce aox
abbrev aDj:E:=pr (fn 10 (.int 0)) aeM
abbrev awm:E:=pr l4 aDj
abbrev anA:E:=pr cb awm
abbrev aiC:E:=pr mI anA
abbrev aq6:E:=pr mS aiC
abbrev akh:E:=pr n6 aq6
abbrev ajT:E:=fn 170 akh
abbrev acD:=[ajT]
abbrev aqT:=Hs::acD
abbrev acu:=HV::aqT
abbrev AP:E:=pr ce (pr K0 ou)
abbrev Jr:=[ki,rM]
abbrev aCj:E:=cmp .lss K0 eE
abbrev Hv:E:=.not aCj
abbrev zi:E:=var 31
abbrev GZ:E:=fn 170 (pr n6 (pr mS (pr mI (pr cb (pr l4 (pr zi aeM))))))
abbrev alU:=[Hs]
abbrev WF:=HV::alU
abbrev am9:=aeG::WF
abbrev aaK:=ki::am9
abbrev WJ:=[Hv]
abbrev aqk:=Hv::Jr
abbrev aaM:=hJ::aqk
abbrev Do:E:=var 40
abbrev CL:E:=var 43
abbrev aAd:E:=pr (.ar .add .i64 eE (.int 1)) ou
abbrev awK:E:=pr ce aAd
abbrev av4:E:=pr CL awK
abbrev asy:E:=pr Do av4
abbrev akZ:E:=pr cb asy
abbrev aDu:E:=pr mI akZ
abbrev aoD:E:=pr mS aDu
abbrev atp:E:=pr n6 aoD
abbrev Ry:E:=fn 170 atp
abbrev ajI:E:=pr l4 (pr zi (.int 0))
abbrev aBV:E:=pr ce ajI
abbrev aA3:E:=pr CL aBV
abbrev aGZ:E:=pr Do aA3
abbrev adk:E:=fn 174 aGZ
abbrev aEO:=rM::WF
abbrev Ob:=ki::aEO
abbrev oO:E:=pr aq (pr ak (pr ay (pr ap BZ)))
abbrev Nj:E:=fn 170 (pr n6 (pr mS (pr mI (pr cb (pr l4 (pr zi (pr ce (pr eE oO))))))))
abbrev Qb:E:=pr ce (pr K0 oO)
abbrev aD1:E:=cmp .eql ap (.int 0)
abbrev HP:=[aD1]
abbrev awp:=AQ::HP
abbrev Dh:=dt::awp
abbrev M1:E:=pr (.int 4) (pr (.int 1) ou)
abbrev qZ:E:=fn 171 M1
abbrev qd:E:=fn 170 (pr aq (pr ak (pr ay (pr ap (pr nd (pr tR M1))))))
abbrev mD:E:=cmp .lss aq ak
abbrev uX:E:=cmp .lss ak ay
abbrev asN:=[mD,uX,AQ]
abbrev HR:=dt::asN
abbrev Bu:E:=fn 188 (pr aq (pr ak (pr ay (pr (.ar .sub .i64 ap (.int 1)) (.int 0)))))
abbrev aBp:=[uX,rK]
abbrev Fd:=dt::aBp
abbrev aFj:E:=pr (.ar .sub .i64 ay (.int 1)) Gk
abbrev alj:E:=pr ak aFj
abbrev aAB:E:=pr aq alj
abbrev TR:E:=fn 188 aAB
abbrev aFn:=Ia::HP
abbrev Cp:=dt::aFn
abbrev adZ:E:=.not uX
abbrev amC:=[adZ,Ia]
abbrev ao1:=mD::amC
abbrev GA:=dt::ao1
abbrev ax1:=[mD,IP]
abbrev Dw:=dt::ax1
abbrev ni:E:=.not mD
abbrev ui:E:=cmp .lss aq ay
abbrev ana:=[ni,ui,AQ]
abbrev FT:=dt::ana
abbrev asS:=[ui,rK]
abbrev AZ:=dt::asS
abbrev FZ:E:=cmp .lss aq ap
abbrev aEA:=FZ::HP
abbrev Ad:=dt::aEA
abbrev ym:E:=.not ui
abbrev ary:=[ni,ym,FZ]
abbrev Ln:=dt::ary
abbrev CY:E:=.not FZ
abbrev wN:E:=cmp .eql aq (.int 0)
abbrev ahV:=[ni,ym,CY,wN,acQ]
abbrev amj:=HJ::ahV
abbrev Nk:=dt::amj
abbrev at4:E:=pr (fn 10 (.int 0)) M1
abbrev ac5:E:=pr aI at4
abbrev BW:E:=fn 170 (pr aq (pr ak (pr ay (pr (.ar .sub .i64 ap (.int 1)) ac5))))
abbrev Xb:E:=pr ap ac5
abbrev awz:E:=pr (.ar .sub .i64 ay (.int 1)) Xb
abbrev axY:E:=pr ak awz
abbrev akt:E:=pr aq axY
abbrev VL:E:=fn 170 akt
abbrev aq1:=[adZ,Jg]
abbrev ajW:=mD::aq1
abbrev Vx:=dt::ajW
abbrev Sg:E:=pr ay Xb
abbrev arX:=[ni,ym,CY,(.not wN)]
abbrev abX:=dt::arX
abbrev Mb:E:=pr (.int 4) (pr (.int 1) oO)
abbrev qr:E:=fn 171 Mb
abbrev qM:E:=fn 170 (pr aq (pr ak (pr ay (pr ap (pr nd (pr tR Mb))))))
abbrev aFa:E:=pr dG Mb
abbrev WG:E:=pr aI aFa
abbrev DT:E:=fn 170 (pr aq (pr ak (pr ay (pr (.ar .sub .i64 ap (.int 1)) WG))))
abbrev acn:E:=pr ap WG
abbrev aoo:E:=pr (.ar .sub .i64 ay (.int 1)) acn
abbrev ahC:E:=pr ak aoo
abbrev au3:E:=pr aq ahC
abbrev aaF:E:=fn 170 au3
abbrev abf:E:=pr ay acn
def fp:List Fa:=[]
theorem avf:aU Try.prog (bn (anm)):=sc fp ([]) Oj ([]) (by kernel_rfl) (by kernel_rfl)
def Pk:Nl:=nc (Ni (kss:=[.down kE]) avf) Oj
def gx:List Fa:=[]
theorem agK:aU Try.prog (bn (arE)):=sc gx ([]) Pk ([]) (by kernel_rfl) (by kernel_rfl)
def aas:Nl:=nc agK Pk
def ahM:=fb ([K2]) (.not (cmp .lss (.int 100) (fn 9 (pr K0 (.int 5)))))<|az fun F p0=>by
 have:=@sU F K0 K1
 try simp only[ab]at *
 grind
def ag5:=fb ([K2]) (.not (cmp .lss (.int 100) (fn 9 (pr K1 (.int 2)))))<|az fun F p0=>by
 have:=@sU F K0 K1
 try simp only[ab]at *
 grind
def af9:=fb (K6::K8::Fs) (.not (cmp .lss (.int 100) (fn 9 (pr (fn 1 (pr K3 (fn 6 (pr (fn 8 (pr K7 (.int 2))) (.int 1))))) (.int 5)))))<|am fun F p0 p1 p2=>by
 have:=@acw F K7 K4 K3
 try simp only[ab]at *
 grind
def ap9:=fb K14 P2<|az fun F p0=>by
 have:=wn F (pr K1 (.int 2))
 try simp only[ab]at *
 grind
def aww:=fb VF (.not (cmp .lss iF (.int 0)))<|az fun F p0=>by
 have:=wn F (pr K1 (.int 2))
 try simp only[ab]at *
 grind
def afP:=fb SQ (.not (cmp .lss (.ar .add .i64 K7 (.int 1)) (.int 0)))<|am fun F p0 p1 p2=>by
 try simp only[ab,aj]at *
 obtain⟨a4,ea4,qa4⟩:=ah ((E.I F K7)+(1))
 omega
def aCy:=fb Qc (.not (cmp .lss (.int 3) ka))<|au fun F p0 p1=>by
 have:=@sU F K0 K1
 try simp only[ab]at *
 grind
def ah9:=fb Wl (.not (cmp .lss (.int 3) iF))<|au fun F p0 p1=>by
 have:=@sU F K0 K1
 try simp only[ab]at *
 grind
def aqt:=fb Tb (.not (cmp .lss K4 (.ar .add .i64 K7 (.int 1))))<|aF fun F p0 p1 p2 p3=>by
 try simp only[ab,aj]at *
 obtain⟨a4,ea4,qa4⟩:=ah ((E.I F K7)+(1))
 omega
def aga:=fb Qc (fn 157 (pr K1 ka))<|au fun F p0 p1=>by
 have:=@sU F K0 K1
 have:=@OR F (fn 9 (pr K1 (.int 2))) ka K1
 try simp only[ab]at *
 grind
def aAC:=fb Wl (fn 157 (pr K1 iF))<|au fun F p0 p1=>by
 have:=@sU F K0 K1
 have:=@OR F (fn 9 (pr K1 (.int 2))) iF K1
 try simp only[ab]at *
 grind
def avs:=fb (K8::(cmp .eql (fn 9 (pr (fn 1 (pr K3 (fn 6 (pr (fn 8 (pr K7 (.int 2))) (.int 1))))) (.int 5))) (.int 0))::QU) (fn 157 (pr (fn 2 (pr K3 (pr (fn 6 (pr (fn 8 (pr K7 (.int 2))) (.int 1))) (fn 30 (.int 0))))) K4))<|aF fun F p0 p1 p2 p3=>by
 have:=@Vr F K7 K4 (fn 30 (.int 0)) K3
 have:=@avG F (.int 0) 5
 try simp only[ab]at *
 grind
def afA:=fb (K8::QU) (fn 157 (pr (fn 2 (pr K3 (pr (fn 6 (pr (fn 8 (pr K7 (.int 2))) (.int 1))) (fn 28 (pr (pr (var 47) (var 45)) (fn 1 (pr K3 (fn 6 (pr (fn 8 (pr K7 (.int 2))) (.int 1)))))))))) K4))<|am fun F p0 p1 p2=>by
 have:=@acw F K7 K4 K3
 have:=@Vr F K7 K4 (fn 28 (pr (pr (var 47) (var 45)) (fn 1 (pr K3 (fn 6 (pr (fn 8 (pr K7 (.int 2))) (.int 1))))))) K3
 have:=@apU F (fn 1 (pr K3 (fn 6 (pr (fn 8 (pr K7 (.int 2))) (.int 1))))) (pr (var 47) (var 45))
 try simp only[ab]at *
 grind
def azx:=fb SQ (cmp .lss (fn 7 (pr K4 (.ar .add .i64 K7 (.int 1)))) (fn 7 (pr K4 K7)))<|am fun F p0 p1 p2=>by
 try simp only[ab,aj]at *
 obtain⟨a4,ea4,qa4⟩:=ah ((E.I F K7)+(1))
 omega
def aFT:=fb Tb (.not (cmp .lss (fn 7 (pr K4 (.ar .add .i64 K7 (.int 1)))) (.int 0)))<|aF fun F p0 p1 p2 p3=>by
 try simp only[ab,aj]at *
 obtain⟨a4,ea4,qa4⟩:=ah ((E.I F K7)+(1))
 omega
def je:List Fa:=[ahM,ag5,af9,ap9,aww,afP,aCy,ah9,aqt,aga,aAC,avs,afA,azx,aFT]
theorem asM:aU Try.prog (bn (aeY)):=sc je (ah1) aas ([]) (by kernel_rfl) (by kernel_rfl)
def Nm:Nl:=nc (Ni (kss:=List.replicate 12 .stay++[.down qD]) asM) aas
def as4:=fb ([Ek]) K34<|az fun F p0=>by
 have:=@E0 F ay aq
 try simp only[ab]at *
 grind
def als:=fb ([(fn 155 (pr aq (fn 9 (pr aq (.int 14))))),ff,xn]) (fn 156 (pr (fn 1 (pr aq (fn 6 (pr (fn 8 (pr ay (.int 14))) (.int 11))))) (fn 1 (pr aq (fn 6 (pr (fn 8 (pr ay (.int 14))) (.int 12)))))))<|am fun F p0 p1 p2=>by
 have:=@aoz F ay (fn 9 (pr aq (.int 14))) aq
 try simp only[ab]at *
 grind
def agd:=fb ([ff,(.not xn)]) K34<|au fun F p0 p1=>by
 have:=@E0 F ay aq
 try simp only[ab]at *
 grind
def aqa:=fb ([Ek]) K37<|az fun F p0=>by
 have:=@E0 F ay aq
 try simp only[ab]at *
 grind
def arY:=fb ([ff,xn]) (cmp .eql (fn 1 (pr aq (fn 6 (pr (fn 8 (pr ay (.int 14))) (.int 1))))) (fn 141 (pr aq ay)))<|au fun F p0 p1=>by
 have:=@acl F ay aq
 try simp only[ab]at *
 grind
def amT:=fb ([ff,(.not xn)]) K37<|au fun F p0 p1=>by
 have:=@E0 F ay aq
 try simp only[ab]at *
 grind
def avN:=fb ([ff,xn]) (cmp .eql (fn 1 (pr aq (fn 6 (pr (fn 8 (pr ay (.int 14))) (.int 7))))) (fn 142 (pr aq ay)))<|au fun F p0 p1=>by
 have:=@acl F ay aq
 try simp only[ab]at *
 grind
def ig:List Fa:=[as4,als,agd,aqa,arY,amT,avN]
theorem aqR:aU Try.prog (bn (akl)):=sc ig ([]) Nm ([]) (by kernel_rfl) (by kernel_rfl)
def abe:Nl:=nc (Ni (kss:=List.replicate 11 .stay++[.down kE,.down qD]) aqR) Nm
def agq:=fb (K39::QA) (.iff ay Ee)<|au fun F p0 p1=>by
 have:=@ky F ak aq
 have:=@ZC F aq
 try simp only[ab]at *
 grind
def auB:=fb ([(.not IP),(.not K39)]) (.iff (.bool false) Ee)<|au fun F p0 p1=>by
 have:=@ky F ak aq
 try simp only[ab]at *
 grind
def auO:=fb (IP::QA) (.iff ay Ee)<|au fun F p0 p1=>by
 have:=@ky F ak aq
 have:=@ZC F aq
 try simp only[ab]at *
 grind
def lC:List Fa:=[agq,auB,auO]
theorem asT:aU Try.prog (bn (apn)):=sc lC ([]) abe ([]) (by kernel_rfl) (by kernel_rfl)
def aeP:Nl:=nc asT abe
def auw:=fb ([ff,K44]) jB<|au fun F p0 p1=>by
 have:=@bP F ay ap aI cK gb
 try simp only[ab]at *
 grind
def anb:=fb ([ff,nQ,fM,K58]) jB<|aF fun F p0 p1 p2 p3=>by
 have:=@bP F ay ap aI cK gb
 try simp only[ab]at *
 grind
def axG:=fb ([ff,nQ,fM,rJ,qK,Pv]) jB<|bU fun F p0 p1 p2 p3 p4 p5=>by
 have:=@bP F ay ap aI cK gb
 try simp only[ab]at *
 grind
def avk:=fb ([ff,nQ,fM,rJ,qK,xO,vD,Dm]) jB<|cU fun F p0 p1 p2 p3 p4 p5 p6 p7=>by
 have:=@bP F ay ap aI cK gb
 try simp only[ab]at *
 grind
def afz:=fb ([ff,nQ,fM,rJ,qK,xO,vD,(.not Dm),qg,(.not K69),(.not KW),(.not K71),(.iff dG (fn 130 aq))]) (.iff dG K53)<|gP fun F p0 p1 p2 p3 p4 p5 p6 p7 p8 p9 ao av ax=>by
 have:=@ky F ak aq
 have:=@bP F ay ap aI cK gb
 try simp only[ab]at *
 grind
def awf:=fb ([ff,nQ,fM,rJ,qK,xO,vD,(.not Dm),(.not KW),K71]) jB<|fF fun F p0 p1 p2 p3 p4 p5 p6 p7 p8 p9=>by
 have:=@bP F ay ap aI cK gb
 try simp only[ab]at *
 grind
def akO:=fb ([ff,nQ,fM,rJ,qK,xO,vD,(.not Dm),KW]) jB<|dK fun F p0 p1 p2 p3 p4 p5 p6 p7 p8=>by
 have:=@bP F ay ap aI cK gb
 try simp only[ab]at *
 grind
def avM:=fb ([qg,K69]) jB<|au fun F p0 p1=>by
 have:=@ky F ak aq
 try simp only[ab]at *
 grind
def am8:=fb ([NM]) jB<|az fun F p0=>by
 have:=@ky F ak aq
 try simp only[ab]at *
 grind
def aAn:=fb ([ff,nQ,fM,rJ,qK,xO,WM]) jB<|ck fun F p0 p1 p2 p3 p4 p5 p6=>by
 have:=@bP F ay ap aI cK gb
 try simp only[ab]at *
 grind
def aq3:=fb ([ff,nQ,fM,rJ,Pg]) jB<|aT fun F p0 p1 p2 p3 p4=>by
 have:=@bP F ay ap aI cK gb
 try simp only[ab]at *
 grind
def aup:=fb ([ff,nQ,VY]) jB<|am fun F p0 p1 p2=>by
 have:=@bP F ay ap aI cK gb
 try simp only[ab]at *
 grind
def aCP:=fb ([Ek]) jB<|az fun F p0=>by
 have:=@bP F ay ap aI cK gb
 try simp only[ab]at *
 grind
def lp:List Fa:=[auw,anb,axG,avk,afz,awf,akO,avM,am8,aAn,aq3,aup,aCP]
theorem asG:aU Try.prog (bn (arC)):=sc lp ([]) aeP ([]) (by kernel_rfl) (by kernel_rfl)
def VE:Nl:=nc (GJ (mss:=aak) asG) aeP
def aFf:=fb ([nD]) (.not (cmp .lss (.int 30) (fn 9 (pr (fn 1 (pr ak (.int 0))) (.int 12)))))<|az fun F p0=>by
 have:=aw p0
 try simp only[ab]at *
 omega
def aG2:=fa ((fn 143 (pr (fn 10 (.int 0)) (pr aq (pr ak (pr ay (.int 0)))))))<|fun F=>by
 rfl
def aDZ:=fb M0 (.not (cmp .lss (.ar .add .i64 aV (.int 1)) (.int 0)))<|am fun F p0 p1 p2=>by
 have:=aw p0
 try simp only[ab,aj]at *
 obtain⟨a9,ea9,qa9⟩:=ah ((E.I F aV)+(1))
 omega
def avl:=fb ([nD]) (.not (cmp .lss (.int 1000) (fn 0 (fn 1 (pr ak (.int 8))))))<|az fun F p0=>by
 have:=aw p0
 try simp only[ab]at *
 omega
def ax6:=fb ([nD]) (.not (cmp .lss (.int 1000) (fn 0 (fn 1 (pr ak (.int 22))))))<|az fun F p0=>by
 have:=aw p0
 try simp only[ab]at *
 omega
def aj1:=fa ((cmp .eql (fn 8 (pr (.int 0) (.int 2))) (.int 0)))<|fun F=>by
 rfl
def aGc:=fb ((.not ez)::IQ::Ql) (.not (cmp .lss (fn 9 (pr (fn 1 (pr ak (.int 0))) (.int 12))) iF))<|am fun F p0 p1 p2=>by
 try simp only[ab]at *
 omega
def afO:=fb Jo (.not (cmp .lss (fn 9 (pr (fn 1 (pr ak (.int 0))) (.int 12))) (.ar .add .i64 aV (.int 1))))<|au fun F p0 p1=>by
 try simp only[ab,aj]at *
 obtain⟨a9,ea9,qa9⟩:=ah ((E.I F aV)+(1))
 omega
def ayU:=fb ([(.not ez),Ep,IQ]) (fn 143 (pr (fn 10 (.int 0)) XD))<|am fun F p0 p1 p2=>by
 have:=@Xn F (fn 10 (.int 0)) aV ay (fn 9 (pr (fn 1 (pr ak (.int 0))) (.int 12))) ak aq
 try simp only[ab]at *
 grind
def agf:=fb ([Sq,(.not (cmp .lss tR iF))]) (.not (cmp .lss tR (.int 0)))<|au fun F p0 p1=>by
 try simp only[ab]at *
 have:=@ch F pb
 omega
def anv:=fb ([(.not ez),IQ,K95]) (fn 143 (pr pb XD))<|am fun F p0 p1 p2=>by
 have:=@Xn F pb aV ay (fn 9 (pr (fn 1 (pr ak (.int 0))) (.int 12))) ak aq
 try simp only[ab]at *
 grind
def amq:=fb (ez::fG::lN::io::ik::lr::(.not sG)::qO) rN<|iv fun F p0 p1 p2 p3 p4 p5 p6 p7 p8 p9 ao av=>by
 have:=aw av
 have:=@aA F aV (.int 1)
 have:=fun hp hv h0 hn=>@dF F _ _ _ (.ar .add .i64 aV (.int 1)) _ _ _ p7 _ _ _ _ cb rfl rfl rfl rfl (iw hp) h0 hn hv
 have:=fun hp hv h0 hn=>@dF F _ _ _ (.ar .add .i64 aV (.int 1)) _ _ _ p7 _ _ _ _ cb rfl rfl rfl rfl (h9 hp) h0 hn hv
 try simp only[ab]at *
 grind
def avK:=fb (ez::fG::lN::io::ik::lr::IM::qO) rN<|iv fun F p0 p1 p2 p3 p4 p5 p6 p7 p8 p9 ao av=>by
 have:=aw av
 have:=@aA F aV (.int 1)
 have:=fun hp hv h0 hn=>@dF F _ _ _ (.ar .add .i64 aV (.int 1)) _ _ _ p7 _ _ _ _ cb rfl rfl rfl rfl (iw hp) h0 hn hv
 have:=fun hp hv h0 hn=>@dF F _ _ _ (.ar .add .i64 aV (.int 1)) _ _ _ p7 _ _ _ _ cb rfl rfl rfl rfl (h9 hp) h0 hn hv
 try simp only[ab]at *
 grind
def ahy:=fb (ez::fG::lN::io::ik::(.not lr)::qO) rN<|gk fun F p0 p1 p2 p3 p4 p5 p6 p7 p8 p9 ao=>by
 have:=aw ao
 have:=@aA F aV (.int 1)
 have:=fun hp hv h0 hn=>@dF F _ _ _ (.ar .add .i64 aV (.int 1)) _ _ _ p6 _ _ _ _ cb rfl rfl rfl rfl (iw hp) h0 hn hv
 have:=fun hp hv h0 hn=>@dF F _ _ _ (.ar .add .i64 aV (.int 1)) _ _ _ p6 _ _ _ _ cb rfl rfl rfl rfl (h9 hp) h0 hn hv
 try simp only[ab]at *
 grind
def afB:=fb (ez::fG::io::(fn 1 (pr (fn 1 (pr ak (.int 0))) (fn 6 (pr (fn 8 (pr aV (.int 12))) (.int 9)))))::qO) rN<|dK fun F p0 p1 p2 p3 p4 p5 p6 p7 p8=>by
 have:=aw p8
 have:=@aA F aV (.int 1)
 have:=fun hp hv h0 hn=>@dF F _ _ _ (.ar .add .i64 aV (.int 1)) _ _ _ p4 _ _ _ _ cb rfl rfl rfl rfl (iw hp) h0 hn hv
 have:=fun hp hv h0 hn=>@dF F _ _ _ (.ar .add .i64 aV (.int 1)) _ _ _ p4 _ _ _ _ cb rfl rfl rfl rfl (h9 hp) h0 hn hv
 try simp only[ab]at *
 grind
def akf:=fb (ez::fG::(.not io)::qO) rN<|cU fun F p0 p1 p2 p3 p4 p5 p6 p7=>by
 have:=aw p7
 have:=@aA F aV (.int 1)
 have:=fun hp hv h0 hn=>@dF F _ _ _ (.ar .add .i64 aV (.int 1)) _ _ _ p3 _ _ _ _ cb rfl rfl rfl rfl (iw hp) h0 hn hv
 have:=fun hp hv h0 hn=>@dF F _ _ _ (.ar .add .i64 aV (.int 1)) _ _ _ p3 _ _ _ _ cb rfl rfl rfl rfl (h9 hp) h0 hn hv
 try simp only[ab]at *
 grind
def aDX:=fb JN (.not (cmp .lss (.ar .add .i64 aV (.int 1)) iF))<|aF fun F p0 p1 p2 p3=>by
 have:=aw p0
 try simp only[ab,aj]at *
 obtain⟨a12,ea12,qa12⟩:=ah ((E.I F aV)+(1))
 omega
def axr:=fb JN (.not (cmp .lss (.int 2147483648) (fn 6 (pr iF (.int 1)))))<|aF fun F p0 p1 p2 p3=>by
 have:=aw p0
 try simp only[ab]at *
 omega
def at1:=fb M0 (cmp .lss (fn 7 (pr (fn 9 (pr (fn 1 (pr ak (.int 0))) (.int 12))) (.ar .add .i64 aV (.int 1)))) (fn 7 (pr (fn 9 (pr (fn 1 (pr ak (.int 0))) (.int 12))) aV)))<|am fun F p0 p1 p2=>by
 have:=aw p0
 try simp only[ab,aj]at *
 obtain⟨a9,ea9,qa9⟩:=ah ((E.I F aV)+(1))
 omega
def arO:=fa ((cmp .eql (fn 8 (pr (.int 1) (.int 2))) (.int 2)))<|fun F=>by
 rfl
def ang:=fb (ez::fG::ik::C8::Bf::zp::qO) rN<|gk fun F p0 p1 p2 p3 p4 p5 p6 p7 p8 p9 ao=>by
 have:=aw ao
 have:=@aA F aV (.int 1)
 have:=fun hp hv h0 hn=>@dF F _ _ _ (.ar .add .i64 aV (.int 1)) _ _ _ p6 _ _ _ _ cb rfl rfl rfl rfl (h9 hp) h0 hn hv
 try simp only[ab]at *
 grind
def alq:=fb ([ez,fG,ik,rK,CH,zp,Ep,rx,nD]) rN<|dK fun F p0 p1 p2 p3 p4 p5 p6 p7 p8=>by
 have:=aw p8
 have:=@aA F aV (.int 1)
 have:=fun hp hv h0 hn=>@dF F _ _ _ (.ar .add .i64 aV (.int 1)) _ _ _ p6 _ _ _ _ cb rfl rfl rfl rfl (iw hp) h0 hn hv
 try simp only[ab]at *
 grind
def ajt:=fb (ez::fG::lN::io::ik::lr::(.not sG)::pS) qq<|rU fun F p0 p1 p2 p3 p4 p5 p6 p7 p8 p9 ao av ax aB=>by
 have:=aw ao
 have:=@aA F aV (.int 1)
 have:=fun hp hv h0 hn=>@dF F _ _ _ (.ar .add .i64 aV (.int 1)) _ _ _ av _ _ _ _ cb rfl rfl rfl rfl (iw hp) h0 hn hv
 have:=fun hp hv h0 hn=>@dF F _ _ _ (.ar .add .i64 aV (.int 1)) _ _ _ av _ _ _ _ cb rfl rfl rfl rfl (h9 hp) h0 hn hv
 try simp only[ab]at *
 grind
def aGj:=fb (ez::fG::lN::io::ik::lr::IM::pS) qq<|rU fun F p0 p1 p2 p3 p4 p5 p6 p7 p8 p9 ao av ax aB=>by
 have:=aw ao
 have:=@aA F aV (.int 1)
 have:=fun hp hv h0 hn=>@dF F _ _ _ (.ar .add .i64 aV (.int 1)) _ _ _ av _ _ _ _ cb rfl rfl rfl rfl (iw hp) h0 hn hv
 have:=fun hp hv h0 hn=>@dF F _ _ _ (.ar .add .i64 aV (.int 1)) _ _ _ av _ _ _ _ cb rfl rfl rfl rfl (h9 hp) h0 hn hv
 try simp only[ab]at *
 grind
def ap5:=fb (ez::fG::lN::io::ik::(.not lr)::pS) qq<|gP fun F p0 p1 p2 p3 p4 p5 p6 p7 p8 p9 ao av ax=>by
 have:=aw p9
 have:=@aA F aV (.int 1)
 have:=fun hp hv h0 hn=>@dF F _ _ _ (.ar .add .i64 aV (.int 1)) _ _ _ ao _ _ _ _ cb rfl rfl rfl rfl (iw hp) h0 hn hv
 have:=fun hp hv h0 hn=>@dF F _ _ _ (.ar .add .i64 aV (.int 1)) _ _ _ ao _ _ _ _ cb rfl rfl rfl rfl (h9 hp) h0 hn hv
 try simp only[ab]at *
 grind
def aqH:=fb (ez::fG::io::(fn 1 (pr (fn 1 (pr ak (.int 0))) (fn 6 (pr (fn 8 (pr aV (.int 12))) (.int 9)))))::pS) qq<|gk fun F p0 p1 p2 p3 p4 p5 p6 p7 p8 p9 ao=>by
 have:=aw p7
 have:=@aA F aV (.int 1)
 have:=fun hp hv h0 hn=>@dF F _ _ _ (.ar .add .i64 aV (.int 1)) _ _ _ p8 _ _ _ _ cb rfl rfl rfl rfl (iw hp) h0 hn hv
 have:=fun hp hv h0 hn=>@dF F _ _ _ (.ar .add .i64 aV (.int 1)) _ _ _ p8 _ _ _ _ cb rfl rfl rfl rfl (h9 hp) h0 hn hv
 try simp only[ab]at *
 grind
def aks:=fb (ez::fG::(.not io)::pS) qq<|fF fun F p0 p1 p2 p3 p4 p5 p6 p7 p8 p9=>by
 have:=aw p6
 have:=@aA F aV (.int 1)
 have:=fun hp hv h0 hn=>@dF F _ _ _ (.ar .add .i64 aV (.int 1)) _ _ _ p7 _ _ _ _ cb rfl rfl rfl rfl (iw hp) h0 hn hv
 have:=fun hp hv h0 hn=>@dF F _ _ _ (.ar .add .i64 aV (.int 1)) _ _ _ p7 _ _ _ _ cb rfl rfl rfl rfl (h9 hp) h0 hn hv
 try simp only[ab]at *
 grind
def aBG:=fb Jo (.not (cmp .lss (fn 7 (pr (fn 9 (pr (fn 1 (pr ak (.int 0))) (.int 12))) (.ar .add .i64 aV (.int 1)))) (.int 0)))<|au fun F p0 p1=>by
 try simp only[ab,aj]at *
 obtain⟨a9,ea9,qa9⟩:=ah ((E.I F aV)+(1))
 omega
def afS:=fb M0 (.not (cmp .lss (.ar .add .i64 aV (.int 1)) (.int 1)))<|am fun F p0 p1 p2=>by
 have:=aw p0
 try simp only[ab,aj]at *
 obtain⟨a11,ea11,qa11⟩:=ah ((E.I F aV)+(1))
 omega
def aji:=fb (ez::fG::ik::C8::Bf::zp::pS) qq<|gP fun F p0 p1 p2 p3 p4 p5 p6 p7 p8 p9 ao av ax=>by
 have:=aw p9
 have:=@aA F aV (.int 1)
 have:=fun hp hv h0 hn=>@dF F _ _ _ (.ar .add .i64 aV (.int 1)) _ _ _ ao _ _ _ _ cb rfl rfl rfl rfl (h9 hp) h0 hn hv
 try simp only[ab]at *
 grind
def awA:=fb (ez::fG::ik::rK::CH::zp::Zn) qq<|gk fun F p0 p1 p2 p3 p4 p5 p6 p7 p8 p9 ao=>by
 have:=aw p7
 have:=@aA F aV (.int 1)
 have:=fun hp hv h0 hn=>@dF F _ _ _ (.ar .add .i64 aV (.int 1)) _ _ _ p8 _ _ _ _ cb rfl rfl rfl rfl (iw hp) h0 hn hv
 try simp only[ab]at *
 grind
def aD9:=fb (ez::fG::lN::io::ik::lr::DZ::sG::C8::Bf::ki::qO) Wy<|lf fun F p0 p1 p2 p3 p4 p5 p6 p7 p8 p9 ao av ax aB aC aE=>by
 have:=aw aE
 have:=@aA F aV (.int 1)
 have hnil14:aG F (fn 10 (.int 0))=[]:=rfl
 have:=fun hp hv h0 hn=>@dF F _ _ _ (.ar .add .i64 aV (.int 1)) _ _ _ av _ _ _ _ cb rfl rfl rfl rfl (h9 hp) h0 hn hv
 try simp only[ab]at *
 grind
def aBT:=fb ([ez,fG,lN,io,ik,lr,DZ,sG,rK,CH,ki,Ep,rx,nD]) Wy<|rU fun F p0 p1 p2 p3 p4 p5 p6 p7 p8 p9 ao av ax aB=>by
 have:=aw aB
 have:=@aA F aV (.int 1)
 have hnil14:aG F (fn 10 (.int 0))=[]:=rfl
 have:=fun hp hv h0 hn=>@dF F _ _ _ (.ar .add .i64 aV (.int 1)) _ _ _ av _ _ _ _ cb rfl rfl rfl rfl (iw hp) h0 hn hv
 try simp only[ab]at *
 grind
def alH:=fb ([Sq]) (cmp .eql (fn 6 (pr (fn 0 pb) (.int 2))) (fn 8 (pr (fn 6 (pr iF (.int 1))) (.int 2))))<|az fun F p0=>by
 try simp only[ab]at *
 omega
def akH:=fb JN (.not (cmp .lss (.ar .add .i64 aV (.int 1)) (fn 6 (pr iF (.int 1)))))<|aF fun F p0 p1 p2 p3=>by
 have:=aw p0
 try simp only[ab,aj]at *
 obtain⟨a14,ea14,qa14⟩:=ah ((E.I F aV)+(1))
 omega
def amc:=fb (ez::fG::lN::io::ik::lr::DZ::sG::C8::Bf::ki::pS) W2<|vc fun F p0 p1 p2 p3 p4 p5 p6 p7 p8 p9 ao av ax aB aC aE aL aQ=>by
 have:=aw aC
 have:=@aA F aV (.int 1)
 have:=fun hp hv h0 hn=>@dF F _ _ _ (.ar .add .i64 aV (.int 1)) _ _ _ aE _ _ _ _ cb rfl rfl rfl rfl (h9 hp) h0 hn hv
 try simp only[ab]at *
 grind
def apO:=fb (ez::fG::lN::io::ik::lr::DZ::sG::rK::CH::ki::Zn) W2<|lf fun F p0 p1 p2 p3 p4 p5 p6 p7 p8 p9 ao av ax aB aC aE=>by
 have:=aw ax
 have:=@aA F aV (.int 1)
 have:=fun hp hv h0 hn=>@dF F _ _ _ (.ar .add .i64 aV (.int 1)) _ _ _ aB _ _ _ _ cb rfl rfl rfl rfl (iw hp) h0 hn hv
 try simp only[ab]at *
 grind
def rj:List Fa:=[aFf,aG2,aDZ,avl,ax6,aj1,aGc,afO,ayU,agf,anv,amq,avK,ahy,afB,akf,aDX,axr,at1,arO,ang,alq,ajt,aGj,ap5,aqH,aks,aBG,afS,aji,awA,aD9,aBT,alH,akH,amc,apO]
theorem ahO:aU Try.prog (bn (agB)):=sc rj (axv) VE (msS) (by kernel_rfl) (by kernel_rfl)
def adK:Nl:=nc ahO VE
def av6:=fa ((cmp .eql (fn 175 (pr ap (pr aq (.int 0)))) (.int (-1))))<|fun F=>by
 rfl
def ats:=fb (rS::WN::Gu::aek) (cmp .eql cY (fn 175 (pr ap (pr aq ak))))<|aT fun F p0 p1 p2 p3 p4=>by
 have:=@Xk F aq ap ak cY
 try simp only[ab]at *
 grind
def ach:=fb U0 (.not (cmp .lss (.ar .add .i64 cY (.int 1)) (.int 0)))<|am fun F p0 p1 p2=>by
 try simp only[ab,aj]at *
 obtain⟨a7,ea7,qa7⟩:=ah ((E.I F cY)+(1))
 omega
def atB:=fb ((.not rS)::Gu::YE) (cmp .eql (fn 175 (pr ap (pr aq ak))) (.int (-1)))<|am fun F p0 p1 p2=>by
 have:=@S3 F aq ap ak cY
 try simp only[ab]at *
 grind
def aw9:=fb aaz (.not (cmp .lss ak (.ar .add .i64 cY (.int 1))))<|aF fun F p0 p1 p2 p3=>by
 try simp only[ab,aj]at *
 obtain⟨a7,ea7,qa7⟩:=ah ((E.I F cY)+(1))
 omega
def al7:=fb ([rS,(.not WN),Gu,Ky,fM,kZ,qk]) (cmp .eql (fn 175 (pr ap (pr aq (.ar .add .i64 cY (.int 1))))) (.int (-1)))<|ck fun F p0 p1 p2 p3 p4 p5 p6=>by
 have:=@aA F cY (.int 1)
 have:=@at8 F aq ap ak (.ar .add .i64 cY (.int 1)) cY
 try simp only[ab]at *
 grind
def P9:=fb U0 (cmp .lss (fn 7 (pr ak (.ar .add .i64 cY (.int 1)))) (fn 7 (pr ak cY)))<|am fun F p0 p1 p2=>by
 try simp only[ab,aj]at *
 obtain⟨a7,ea7,qa7⟩:=ah ((E.I F cY)+(1))
 omega
def ayA:=fb aaz (.not (cmp .lss (fn 7 (pr ak (.ar .add .i64 cY (.int 1)))) (.int 0)))<|aF fun F p0 p1 p2 p3=>by
 try simp only[ab,aj]at *
 obtain⟨a7,ea7,qa7⟩:=ah ((E.I F cY)+(1))
 omega
def rc:List Fa:=[av6,ats,ach,atB,aw9,al7,P9,ayA]
theorem aw0:aU Try.prog (bn (Pq false)):=sc rc (SO false) adK ([]) (by kernel_rfl) (by kernel_rfl)
def Yk:Nl:=nc aw0 adK
def anj:=fa ((cmp .eql (fn 175 (pr (.int (-1)) (pr aq (.int 0)))) (.int (-1))))<|fun F=>by
 rfl
def afC:=fb (rS::adb::aek) (cmp .eql cY (fn 175 (pr (.int (-1)) (pr aq ak))))<|aF fun F p0 p1 p2 p3=>by
 have:=@Xk F aq (.int (-1)) ak cY
 try simp only[ab]at *
 grind
def axI:=fb ((.not rS)::adb::YE) (cmp .eql (fn 175 (pr (.int (-1)) (pr aq ak))) (.int (-1)))<|am fun F p0 p1 p2=>by
 have:=@S3 F aq (.int (-1)) ak cY
 try simp only[ab]at *
 grind
def qG:List Fa:=[anj,afC,axI]
theorem al1:aU Try.prog (bn (Pq true)):=sc qG (SO true) Yk ([]) (by kernel_rfl) (by kernel_rfl)
def Zh:Nl:=nc al1 Yk
def ah4:=fb RH (.not (cmp .lss ay (fn 6 (pr ap (fn 7 (pr ak aI))))))<|bU fun F p0 p1 p2 p3 p4 p5=>by
 try simp only[ab,aj]at *
 obtain⟨a5,ea5,qa5⟩:=ah ((E.I F ap)+(1))
 omega
def aFC:=fb mP (cmp .lss (fn 6 (pr ap (fn 7 (pr ak aI)))) ak)<|aT fun F p0 p1 p2 p3 p4=>by
 try simp only[ab,aj]at *
 obtain⟨a5,ea5,qa5⟩:=ah ((E.I F ap)+(1))
 omega
def aCO:=fb mP qK<|aT fun F p0 p1 p2 p3 p4=>by
 try simp only[ab,aj]at *
 obtain⟨a5,ea5,qa5⟩:=ah ((E.I F ap)+(1))
 omega
def akL:=fb mP (.not (cmp .lss ak aI))<|aT fun F p0 p1 p2 p3 p4=>by
 try simp only[ab,aj]at *
 obtain⟨a5,ea5,qa5⟩:=ah ((E.I F ap)+(1))
 omega
def aoK:=fb mP (.not (cmp .lss aI ap))<|aT fun F p0 p1 p2 p3 p4=>by
 try simp only[ab,aj]at *
 obtain⟨a5,ea5,qa5⟩:=ah ((E.I F ap)+(1))
 omega
def atd:=fb eX acO<|au fun F p0 p1=>by
 try simp only[ab]at *
 omega
def akG:=fb eX qe<|au fun F p0 p1=>by
 try simp only[ab]at *
 omega
def arm:=fb ([kH,hG,fM,kZ,qg,(cmp .eql ap aI)]) acO<|bU fun F p0 p1 p2 p3 p4 p5=>by
 try simp only[ab,aj]at *
 obtain⟨a5,ea5,qa5⟩:=ah ((E.I F ap)+(1))
 omega
def aCN:=fb Sh qe<|aF fun F p0 p1 p2 p3=>by
 try simp only[ab]at *
 omega
def az1:=fb ([hG,yO]) qe<|au fun F p0 p1=>by
 try simp only[ab]at *
 omega
def ark:=fb eX Ua<|au fun F p0 p1=>by
 try simp only[ab]at *
 omega
def axZ:=fb eX Jg<|au fun F p0 p1=>by
 try simp only[ab]at *
 omega
def aCe:=fb ([kH,hG,fM,kZ,(cmp .eql ap aI)]) Ua<|aT fun F p0 p1 p2 p3 p4=>by
 try simp only[ab,aj]at *
 obtain⟨a5,ea5,qa5⟩:=ah ((E.I F ap)+(1))
 omega
def aB5:=fb ([hG]) Jg<|az fun F p0=>by
 try simp only[ab]at *
 omega
def aiI:=fb eX ff<|au fun F p0 p1=>by
 try simp only[ab]at *
 omega
def alJ:=fb eX O5<|au fun F p0 p1=>by
 try simp only[ab]at *
 omega
def aiy:=fb (kH::adQ) ff<|aF fun F p0 p1 p2 p3=>by
 try simp only[ab]at *
 have:=@ch F aq
 omega
def axS:=fb mP O5<|aT fun F p0 p1 p2 p3 p4=>by
 try simp only[ab,aj]at *
 obtain⟨a5,ea5,qa5⟩:=ah ((E.I F ap)+(1))
 omega
def ars:=fb eX Ot<|au fun F p0 p1=>by
 try simp only[ab]at *
 omega
def aAo:=fb eX adA<|au fun F p0 p1=>by
 try simp only[ab]at *
 omega
def ann:=fb ([hG,kZ,qg]) Ot<|am fun F p0 p1 p2=>by
 try simp only[ab]at *
 omega
def arx:=fa (adA)<|fun F=>by
 try simp only[ab]at *
 omega
def avv:=fb ([qk,yO]) ff<|au fun F p0 p1=>by
 try simp only[ab]at *
 have:=@ch F aq
 omega
def ai1:=fb eX U8<|au fun F p0 p1=>by
 try simp only[ab]at *
 omega
def arn:=fb mP U8<|aT fun F p0 p1 p2 p3 p4=>by
 try simp only[ab,aj]at *
 obtain⟨a5,ea5,qa5⟩:=ah ((E.I F ap)+(1))
 omega
def atx:=fb eX Su<|au fun F p0 p1=>by
 try simp only[ab]at *
 omega
def avF:=fb eX Qx<|au fun F p0 p1=>by
 try simp only[ab]at *
 omega
def aDS:=fb ([kH,hG,fM,qk]) Su<|aF fun F p0 p1 p2 p3=>by
 try simp only[ab,aj]at *
 obtain⟨a5,ea5,qa5⟩:=ah ((E.I F ap)+(1))
 omega
def ao5:=fb Ou Qx<|ck fun F p0 p1 p2 p3 p4 p5 p6=>by
 try simp only[ab,aj]at *
 obtain⟨a5,ea5,qa5⟩:=ah ((E.I F ap)+(1))
 omega
def aFO:=fb eX abV<|au fun F p0 p1=>by
 try simp only[ab]at *
 omega
def aBB:=fb eX (cmp .lss ap ay)<|au fun F p0 p1=>by
 try simp only[ab]at *
 omega
def amX:=fb mP abV<|aT fun F p0 p1 p2 p3 p4=>by
 try simp only[ab,aj]at *
 obtain⟨a5,ea5,qa5⟩:=ah ((E.I F ap)+(1))
 omega
def aos:=fb Sh (cmp .lss ap ay)<|aF fun F p0 p1 p2 p3=>by
 try simp only[ab]at *
 omega
def ayo:=fb eX YN<|au fun F p0 p1=>by
 try simp only[ab]at *
 omega
def akA:=fb eX Tk<|au fun F p0 p1=>by
 try simp only[ab]at *
 omega
def ayh:=fb mP YN<|aT fun F p0 p1 p2 p3 p4=>by
 try simp only[ab,aj]at *
 obtain⟨a5,ea5,qa5⟩:=ah ((E.I F ap)+(1))
 omega
def ata:=fb Ou Tk<|ck fun F p0 p1 p2 p3 p4 p5 p6=>by
 try simp only[ab,aj]at *
 obtain⟨a5,ea5,qa5⟩:=ah ((E.I F ap)+(1))
 omega
def aov:=fb eX O2<|au fun F p0 p1=>by
 try simp only[ab]at *
 omega
def aA2:=fb eX Rm<|au fun F p0 p1=>by
 try simp only[ab]at *
 omega
def aDW:=fb RH O2<|bU fun F p0 p1 p2 p3 p4 p5=>by
 try simp only[ab,aj]at *
 obtain⟨a5,ea5,qa5⟩:=ah ((E.I F ap)+(1))
 omega
def arP:=fb aa7 Rm<|ck fun F p0 p1 p2 p3 p4 p5 p6=>by
 have:=@Hg F (fn 8 (pr ap (.int 2))) aq
 have:=@Hg F (fn 8 (pr (.int 0) (.int 2))) aq
 try simp only[ab]at *
 omega
def atD:=fb eX aaH<|au fun F p0 p1=>by
 try simp only[ab]at *
 omega
def aoP:=fb eX Tf<|au fun F p0 p1=>by
 try simp only[ab]at *
 omega
def ajZ:=fb mP aaH<|aT fun F p0 p1 p2 p3 p4=>by
 try simp only[ab,aj]at *
 obtain⟨a5,ea5,qa5⟩:=ah ((E.I F ap)+(1))
 omega
def aEn:=fb aa7 Tf<|ck fun F p0 p1 p2 p3 p4 p5 p6=>by
 have hr0:(0<=E.I F _)->(E.I F _=E.I F _*2)->(E.I F _<=0)->(E.I F _<=E.I F _*2+2)->E.B F (fn _ (pr (fn 3 (pr (fn 18 (pr _ (fn 8 (pr ap (.int 2))))) (fn 18 (pr _ (fn 8 (pr (.int 0) (.int 2))))))) vX))=true:=fun s0 s1 s2 s3=>agk s0 s1 s2 s3
 try simp only[ab,aj]at *
 obtain⟨a5,ea5,qa5⟩:=ah ((E.I F ap)+(1))
 grind
def asb:=fb eX PI<|au fun F p0 p1=>by
 try simp only[ab]at *
 omega
def azC:=fb ([kH,hG,fM,kZ,qk,(.not (cmp .eql ak ap))]) PI<|bU fun F p0 p1 p2 p3 p4 p5=>by
 have:=@Hg F (fn 8 (pr ap (.int 2))) aq
 have:=@akv F aq (fn 8 (pr aI (.int 2))) (fn 8 (pr (fn 6 (pr aI (fn 7 (pr ak aI)))) (.int 2)))
 try simp only[ab,aj]at *
 obtain⟨a7,ea7,qa7⟩:=ah ((E.I F ap)+(1))
 omega
def auQ:=fb eX Pn<|au fun F p0 p1=>by
 try simp only[ab]at *
 omega
def apE:=fb ([kH,hG,fM,kZ,qk]) Pn<|aT fun F p0 p1 p2 p3 p4=>by
 have hr0:(0<=E.I F _)->(E.I F _=E.I F _*2)->(E.I F _=E.I F _*2+2)->(E.I F _=E.I F _)->E.B F (fn _ (pr (fn 3 (pr (fn 18 (pr _ (fn 8 (pr ap (.int 2))))) (fn 4 (pr _ (pr (fn 8 (pr aI (.int 2))) (fn 8 (pr (fn 6 (pr aI (fn 7 (pr ak aI)))) (.int 2)))))))) vX))=true:=fun s0 s1 s2 s3=>anR s0 s1 s2 s3
 try simp only[ab,aj]at *
 obtain⟨a5,ea5,qa5⟩:=ah ((E.I F ap)+(1))
 grind
def rR:List Fa:=[iR,ah4,aFC,aCO,akL,aoK,atd,akG,arm,aCN,az1,ark,axZ,aCe,aB5,aiI,alJ,aiy,axS,ars,aAo,ann,arx,avv,ai1,arn,atx,avF,aDS,ao5,aFO,aBB,amX,aos,ayo,akA,ayh,ata,aov,aA2,aDW,arP,atD,aoP,ajZ,aEn,asb,azC,auQ,apE]
theorem axH:aU Try.prog (bn (akr)):=sc rR ([]) Zh ([]) (by kernel_rfl) (by kernel_rfl)
def aeJ:Nl:=nc axH Zh
def On:=fb ([Il,Q0]) (cmp .eql (fn 175 (pr ce (pr aI cK))) (.int (-1)))<|au fun F p0 p1=>by
 have:=@XW F aI ce cK
 try simp only[ab]at *
 grind
def Vd:=fb (vD::(cmp .lss K0 cK)::Il::ux::AG) P2<|aT fun F p0 p1 p2 p3 p4=>by
 try simp only[ab]at *
 grind
def NC:=fb (RR::AG) (.not (cmp .lss gb ka))<|au fun F p0 p1=>by
 try simp only[ab]at *
 grind
def apv:=fb (MU::AG) (.not (cmp .lss (.int 30) (fn 6 (pr ka (.int 1)))))<|au fun F p0 p1=>by
 try simp only[ab]at *
 grind
def aCi:=fb adI (fn 174 (pr (var 13) (pr (fn 23 (pr (fn 1 (pr aI (fn 6 (pr (fn 8 (pr K0 (.int 2))) (.int 0))))) (fn 10 (.int 0)))) (pr ce Da))))<|aF fun F p0 p1 p2 p3=>by
 have hr2:(E.I F _=E.I F _)->(0<=E.I F _)->(E.I F _=E.I F cK*2)->E.B F (fn _ (pr _ (pr _ (pr ce _))))=true:=fun s0 s1 s2=>Uw p3 s0 s1 s2
 try simp only[ab]at *
 grind
def qU:List Fa:=[On,Vd,NC,apv,aCi]
theorem aj6:aU Try.prog (bn (Dr false false)):=sc qU ([]) aeJ ([]) (by kernel_rfl) (by kernel_rfl)
def TC:Nl:=nc aj6 aeJ
def Yo:=fb (y6::Nn::Zk) MU<|am fun F p0 p1 p2=>by
 try simp only[ab]at *
 omega
def aaD:=fb ((.not (cmp .lss (var 9) cY))::Zk) (.not (cmp .lss (var 9) (.int 0)))<|au fun F p0 p1=>by
 try simp only[ab]at *
 grind
def axB:=fb ([y6,(cmp .lss K0 cK),ux]) Qe<|am fun F p0 p1 p2=>by
 try simp only[ab]at *
 grind
def aaj:=fb ([Nn]) (cmp .eql (fn 6 (pr (fn 0 dG) (.int 1))) (fn 6 (pr cY (.int 1))))<|az fun F p0=>by
 try simp only[ab]at *
 grind
def aou:=fb (y6::AG) (.not (cmp .lss (.int 30) (fn 6 (pr ka (fn 6 (pr cY (.int 1)))))))<|au fun F p0 p1=>by
 try simp only[ab]at *
 grind
def agH:=fb adI (fn 174 (pr (var 13) (pr (fn 3 (pr dG (fn 23 (pr (fn 1 (pr aI (fn 6 (pr (fn 8 (pr K0 (.int 2))) (.int 0))))) (fn 10 (.int 0)))))) (pr ce BZ))))<|aF fun F p0 p1 p2 p3=>by
 have hr2:(E.I F _=E.I F _)->(0<=E.I F _)->(E.I F _=E.I F cK*2)->E.B F (fn _ (pr _ (pr _ (pr ce (pr _ (pr dG _))))))=true:=fun s0 s1 s2=>UR p3 s0 s1 s2
 try simp only[ab]at *
 grind
def qp:List Fa:=[Yo,On,aaD,axB,Vd,NC,aaj,aou,agH]
theorem aiw:aU Try.prog (bn (Dr true false)):=sc qp ([]) TC ([]) (by kernel_rfl) (by kernel_rfl)
def acd:Nl:=nc aiw TC
def acq:=fb ([Lt,Qn]) acQ<|au fun F p0 p1=>by
 have:=@XW F aI (.int (-1)) cK
 try simp only[ab]at *
 grind
def YB:=fb (vD::(cmp .lss K1 cK)::Lt::KG::Dx) (.not (cmp .lss nd (.int 0)))<|aT fun F p0 p1 p2 p3 p4=>by
 try simp only[ab]at *
 grind
def Yj:=fb (RR::Dx) (.not (cmp .lss gb nd))<|au fun F p0 p1=>by
 try simp only[ab]at *
 grind
def afD:=fb (MU::Dx) (.not (cmp .lss (.int 30) (fn 6 (pr nd (.int 1)))))<|au fun F p0 p1=>by
 try simp only[ab]at *
 grind
def axg:=fb aco (fn 174 (pr ka (pr (fn 23 (pr (fn 1 (pr aI (fn 6 (pr (fn 8 (pr K1 (.int 2))) (.int 0))))) (fn 10 (.int 0)))) (pr (.int (-1)) Da))))<|aF fun F p0 p1 p2 p3=>by
 have hr2:(E.I F _=E.I F _)->(0<=E.I F _)->(E.I F _=E.I F cK*2)->E.B F (fn _ (pr _ (pr _ (pr (.int (-1)) _))))=true:=fun s0 s1 s2=>Uw p3 s0 s1 s2
 try simp only[ab]at *
 grind
def pN:List Fa:=[acq,YB,Yj,afD,axg]
theorem axn:aU Try.prog (bn (Dr false true)):=sc pN ([]) acd ([]) (by kernel_rfl) (by kernel_rfl)
def Sy:Nl:=nc axn acd
def aoI:=fb ([y6,(cmp .lss K1 cK),KG]) Qe<|am fun F p0 p1 p2=>by
 try simp only[ab]at *
 grind
def aBc:=fb (y6::Dx) (.not (cmp .lss (.int 30) (fn 6 (pr nd (fn 6 (pr cY (.int 1)))))))<|au fun F p0 p1=>by
 try simp only[ab]at *
 grind
def akC:=fb aco (fn 174 (pr ka (pr (fn 3 (pr dG (fn 23 (pr (fn 1 (pr aI (fn 6 (pr (fn 8 (pr K1 (.int 2))) (.int 0))))) (fn 10 (.int 0)))))) (pr (.int (-1)) BZ))))<|aF fun F p0 p1 p2 p3=>by
 have hr2:(E.I F _=E.I F _)->(0<=E.I F _)->(E.I F _=E.I F cK*2)->E.B F (fn _ (pr _ (pr _ (pr (.int (-1)) (pr _ (pr dG _))))))=true:=fun s0 s1 s2=>UR p3 s0 s1 s2
 try simp only[ab]at *
 grind
def pP:List Fa:=[Yo,acq,aaD,aoI,YB,Yj,aaj,aBc,akC]
theorem alA:aU Try.prog (bn (Dr true true)):=sc pP ([]) Sy ([]) (by kernel_rfl) (by kernel_rfl)
def ab4:Nl:=nc alA Sy
def aa1:=fb lF (fn 188 (pr aq (pr ak (pr ay (pr (.ar .sub .i64 ap (.mn K0 ap)) (.int 0))))))<|au fun F p0 p1=>by
 have:=@bz F ap (.mn K0 ap)
 have:=(@aW F _ _ _ _).mp p1
 rw[show E.B F _=true↔_ from iff_of_eq (@aW F _ _ _ _)]
 try simp only[ab]at *
 grind
def Pd:=fb lF (fn 188 (pr aq (pr ak (pr (.ar .sub .i64 ay (.mn K0 ay)) Gk))))<|au fun F p0 p1=>by
 have:=@bz F ay (.mn K0 ay)
 have:=(@aW F _ _ _ _).mp p1
 rw[show E.B F _=true↔_ from iff_of_eq (@aW F _ _ _ _)]
 try simp only[ab]at *
 grind
def Xs:=fb lF (fn 188 (pr aq (pr (.ar .sub .i64 ak (.mn K0 ak)) IE)))<|au fun F p0 p1=>by
 have:=@bz F ak (.mn K0 ak)
 have:=(@aW F _ _ _ _).mp p1
 rw[show E.B F _=true↔_ from iff_of_eq (@aW F _ _ _ _)]
 try simp only[ab]at *
 grind
def abS:=fb lF (fn 188 (pr (.ar .sub .i64 aq (.mn K0 aq)) Hi))<|au fun F p0 p1=>by
 have:=@bz F aq (.mn K0 aq)
 have:=(@aW F _ _ _ _).mp p1
 rw[show E.B F _=true↔_ from iff_of_eq (@aW F _ _ _ _)]
 try simp only[ab]at *
 grind
def UM:=fb CD (.not (cmp .lss (.mn K0 ap) (.int 0)))<|au fun F p0 p1=>by
 have:=(@aW F _ _ _ _).mp p0
 try simp only[ab]at *
 grind
def Wr:=fb CD (.not (cmp .lss (.mn K0 ay) (.int 0)))<|au fun F p0 p1=>by
 have:=(@aW F _ _ _ _).mp p0
 try simp only[ab]at *
 grind
def acZ:=fb CD (.not (cmp .lss (.mn K0 ak) (.int 0)))<|au fun F p0 p1=>by
 have:=(@aW F _ _ _ _).mp p0
 try simp only[ab]at *
 grind
def WT:=fb CD (.not (cmp .lss (.mn K0 aq) (.int 0)))<|au fun F p0 p1=>by
 have:=(@aW F _ _ _ _).mp p0
 try simp only[ab]at *
 grind
def aeh:=fa ((.not (cmp .lss K0 (.mn K0 ap))))<|fun F=>by
 try simp only[ab]at *
 grind
def QF:=fa ((.not (cmp .lss K0 (.mn K0 ay))))<|fun F=>by
 try simp only[ab]at *
 grind
def TO:=fa ((.not (cmp .lss K0 (.mn K0 ak))))<|fun F=>by
 try simp only[ab]at *
 grind
def Rr:=fa ((.not (cmp .lss K0 (.mn K0 aq))))<|fun F=>by
 try simp only[ab]at *
 grind
def ax9:=fb PB (fn 170 (pr aq (pr ak (pr ay (pr (.ar .sub .i64 ap (.mn K0 ap)) (pr aI (pr (fn 10 (.int 0)) (pr ce (pr (.mn K0 ap) ou)))))))))<|ck fun F p0 p1 p2 p3 p4 p5 p6=>by
 have:=@bz F ap (.mn K0 ap)
 have:=(@aW F _ _ _ _).mp p6
 have hr2:(E.I F _=3)->(E.I F _=E.I F _-E.I F _)->(0<=E.I F _)->(E.I F _<=E.I F _)->E.B F (fn _ (pr _ (pr _ (pr _ (pr (.ar .sub .i64 ap (.mn K0 ap)) (pr _ (pr _ (pr ce (pr (.mn K0 ap) (pr aq (pr ak (pr ay (pr ap (pr aI (pr (fn 10 (.int 0)) _)))))))))))))))=true:=fun s0 s1 s2 s3=>Ux s0 s1 s2 s3
 try simp only[ab]at *
 grind
def arz:=fb (xa::lF) (fn 170 (pr aq (pr ak (pr (.ar .sub .i64 ay (.mn K0 ay)) (pr ap (pr aI (pr (fn 10 (.int 0)) (pr ce (pr (.mn K0 ay) ou)))))))))<|am fun F p0 p1 p2=>by
 have:=@bz F ay (.mn K0 ay)
 have:=(@aW F _ _ _ _).mp p2
 have hr2:(E.I F _=2)->(E.I F _=E.I F _-E.I F _)->(0<=E.I F _)->(E.I F _<=E.I F _)->E.B F (fn _ (pr _ (pr _ (pr (.ar .sub .i64 ay (.mn K0 ay)) (pr _ (pr _ (pr _ (pr ce (pr (.mn K0 ay) (pr aq (pr ak (pr ay (pr ap (pr aI (pr (fn 10 (.int 0)) _)))))))))))))))=true:=fun s0 s1 s2 s3=>acR s0 s1 s2 s3
 try simp only[ab]at *
 grind
def aj4:=fb (zw::lF) (fn 170 (pr aq (pr (.ar .sub .i64 ak (.mn K0 ak)) (pr ay (pr ap (pr aI (pr (fn 10 (.int 0)) (pr ce (pr (.mn K0 ak) ou)))))))))<|am fun F p0 p1 p2=>by
 have:=@bz F ak (.mn K0 ak)
 have:=(@aW F _ _ _ _).mp p2
 have hr2:(E.I F _=1)->(E.I F _=E.I F _-E.I F _)->(0<=E.I F _)->(E.I F _<=E.I F _)->E.B F (fn _ (pr _ (pr (.ar .sub .i64 ak (.mn K0 ak)) (pr _ (pr _ (pr _ (pr _ (pr ce (pr (.mn K0 ak) (pr aq (pr ak (pr ay (pr ap (pr aI (pr (fn 10 (.int 0)) _)))))))))))))))=true:=fun s0 s1 s2 s3=>adM s0 s1 s2 s3
 try simp only[ab]at *
 grind
def aBt:=fb (yI::lF) (fn 170 (pr (.ar .sub .i64 aq (.mn K0 aq)) (pr ak (pr ay (pr ap (pr aI (pr (fn 10 (.int 0)) (pr ce (pr (.mn K0 aq) ou)))))))))<|am fun F p0 p1 p2=>by
 have:=@bz F aq (.mn K0 aq)
 have:=(@aW F _ _ _ _).mp p2
 have hr2:(E.I F _=0)->(E.I F _=E.I F _-E.I F _)->(0<=E.I F _)->(E.I F _<=E.I F _)->E.B F (fn _ (pr (.ar .sub .i64 aq (.mn K0 aq)) (pr _ (pr _ (pr _ (pr _ (pr _ (pr ce (pr (.mn K0 aq) (pr aq (pr ak (pr ay (pr ap (pr aI (pr (fn 10 (.int 0)) _)))))))))))))))=true:=fun s0 s1 s2 s3=>adH s0 s1 s2 s3
 try simp only[ab]at *
 grind
def acX:=fb ((.not yI)::(.not zw)::(.not xa)::rM::Xv) (.imp (cmp .lss (.mn K0 ap) K0) (fn 185 (pr aq (pr ak (pr ay (pr (.ar .sub .i64 ap (.mn K0 ap)) Lo))))))<|ck fun F p0 p1 p2 p3 p4 p5 p6=>by
 have:=@bz F ap (.mn K0 ap)
 have hr5:=fun s0 s1=>@amg F aq ak ay (.ar .sub .i64 ap (.mn K0 ap)) ce s0 s1
 try simp only[ab]at *
 grind
def RQ:=fb ([xa,rM,dt]) (.imp (cmp .lss (.mn K0 ay) K0) (fn 185 (pr aq (pr ak (pr (.ar .sub .i64 ay (.mn K0 ay)) Xe)))))<|am fun F p0 p1 p2=>by
 have:=@bz F ay (.mn K0 ay)
 have hr4:=fun s0 s1=>@aeU F aq ak (.ar .sub .i64 ay (.mn K0 ay)) ap ce s0 s1
 try simp only[ab]at *
 grind
def aeF:=fb ([zw,rM,dt]) (.imp (cmp .lss (.mn K0 ak) K0) (fn 185 (pr aq (pr (.ar .sub .i64 ak (.mn K0 ak)) aes))))<|am fun F p0 p1 p2=>by
 have:=@bz F ak (.mn K0 ak)
 have hr3:=fun s0 s1=>@aqB F aq (.ar .sub .i64 ak (.mn K0 ak)) ay ap ce s0 s1
 try simp only[ab]at *
 grind
def Vz:=fb ([yI,rM,dt]) (.imp (cmp .lss (.mn K0 aq) K0) (fn 185 (pr (.ar .sub .i64 aq (.mn K0 aq)) (pr ak aes))))<|am fun F p0 p1 p2=>by
 have:=@bz F aq (.mn K0 aq)
 have hr2:=fun s0 s1=>@at6 F (.ar .sub .i64 aq (.mn K0 aq)) ak ay ap ce s0 s1
 try simp only[ab]at *
 grind
def aqI:=fb (hJ::MR::qv::ki::aeG::acu) (fn 171 AP)<|cU fun F p0 p1 p2 p3 p4 p5 p6 p7=>by
 have hr4:(E.I F _=-1)->(E.I F _=E.I F vS*2)->(E.B F _=true)->(0<=E.I F _)->(E.I F _<=3)->(0<=E.I F _)->(E.I F _<E.I F _)->E.B F (fn _ (pr _ (pr K0 _)))=true:=fun s0 s1 s2 s3 s4 s5 s6=>JX p7 s0 s1 s2 s3 s4 s5 s6
 try simp only[ab]at *
 grind
def aaC:=fb (hJ::Jr) (.not (cmp .lss (.ar .add .i64 eE (.int 1)) (.int 0)))<|am fun F p0 p1 p2=>by
 try simp only[ab,aj]at *
 obtain⟨a15,ea15,qa15⟩:=ah ((E.I F eE)+(1))
 omega
def aFb:=fb ((.not hJ)::Hv::acD) (fn 170 (pr n6 (pr mS (pr mI (pr cb (pr l4 (pr (fn 10 (.int 0)) AP)))))))<|am fun F p0 p1 p2=>by
 have hr4:(E.I F _=E.I F _)->E.B F (fn _ (pr _ (pr _ (pr _ (pr _ (pr _ (pr _ (pr _ (pr K0 _)))))))))=true:=fun s0=>fA p2 s0
 try simp only[ab]at *
 grind
def ak2:=fb (hJ::MR::qv::GZ::aaK) (fn 171 AP)<|cU fun F p0 p1 p2 p3 p4 p5 p6 p7=>by
 have hr4:(E.I F _=-1)->(E.I F _=E.I F vS*2)->(E.B F _=true)->(0<=E.I F _)->(E.I F _<=3)->(0<=E.I F _)->(E.I F _<E.I F _)->E.B F (fn _ (pr _ (pr K0 _)))=true:=fun s0 s1 s2 s3 s4 s5 s6=>JX p3 s0 s1 s2 s3 s4 s5 s6
 try simp only[ab]at *
 grind
def azg:=fb ((.not hJ)::GZ::WJ) (fn 170 (pr n6 (pr mS (pr mI (pr cb (pr l4 (pr zi AP)))))))<|am fun F p0 p1 p2=>by
 have hr4:(E.I F _=E.I F _)->E.B F (fn _ (pr _ (pr _ (pr _ (pr _ (pr _ (pr _ (pr _ (pr K0 _)))))))))=true:=fun s0=>fA p1 s0
 try simp only[ab]at *
 grind
def Ow:=fb aaM (.not (cmp .lss K0 (.ar .add .i64 eE (.int 1))))<|aF fun F p0 p1 p2 p3=>by
 try simp only[ab,aj]at *
 obtain⟨a15,ea15,qa15⟩:=ah ((E.I F eE)+(1))
 omega
def aEk:=fb (hJ::(fn 174 (pr Do (pr CL (pr ce (pr l4 WZ)))))::qv::ki::rM::acu) Ry<|cU fun F p0 p1 p2 p3 p4 p5 p6 p7=>by
 have:=@aA F eE (.int 1)
 have hr4:(E.B F _=true)->(0<=E.I F _)->(E.I F _<=3)->(0<=E.I F _)->(E.I F _=E.I F _+1)->E.B F (fn _ (pr _ (pr _ (pr _ (pr _ (pr _ (pr _ (pr _ (pr (.ar .add .i64 eE (.int 1)) _)))))))))=true:=fun s0 s1 s2 s3 s4=>LH p7 p1 s0 s1 s2 s3 s4
 try simp only[ab]at *
 grind
def am3:=fb (hJ::adk::qv::GZ::Ob) Ry<|cU fun F p0 p1 p2 p3 p4 p5 p6 p7=>by
 have:=@aA F eE (.int 1)
 have hr4:(E.B F _=true)->(0<=E.I F _)->(E.I F _<=3)->(0<=E.I F _)->(E.I F _=E.I F _+1)->E.B F (fn _ (pr _ (pr _ (pr _ (pr _ (pr _ (pr _ (pr _ (pr (.ar .add .i64 eE (.int 1)) _)))))))))=true:=fun s0 s1 s2 s3 s4=>LH p3 p1 s0 s1 s2 s3 s4
 try simp only[ab]at *
 grind
def Va:=fb ([hJ,qv]) (.imp (cmp .lss (.ar .add .i64 eE (.int 1)) K0) Qz)<|au fun F p0 p1=>by
 simp_all
def Pe:=fb (hJ::Jr) (cmp .lss (fn 7 (pr K0 (.ar .add .i64 eE (.int 1)))) (fn 7 (pr K0 eE)))<|am fun F p0 p1 p2=>by
 try simp only[ab,aj]at *
 obtain⟨a15,ea15,qa15⟩:=ah ((E.I F eE)+(1))
 omega
def abi:=fb aaM (.not (cmp .lss (fn 7 (pr K0 (.ar .add .i64 eE (.int 1)))) (.int 0)))<|aF fun F p0 p1 p2 p3=>by
 try simp only[ab,aj]at *
 obtain⟨a15,ea15,qa15⟩:=ah ((E.I F eE)+(1))
 omega
def rE:List Fa:=[aa1,Pd,Xs,abS,UM,Wr,acZ,WT,aeh,QF,TO,Rr,ax9,arz,aj4,aBt,acX,RQ,aeF,Vz,aqI,aaC,aFb,ak2,azg,Ow,aEk,am3,Va,Pe,abi]
theorem ahT:aU Try.prog (bn (adq false)):=sc rE (OG false) ab4 ([]) (by kernel_rfl) (by kernel_rfl)
def Zq:Nl:=nc ahT ab4
def ayG:=fb PB (fn 170 (pr aq (pr ak (pr ay (pr (.ar .sub .i64 ap (.mn K0 ap)) (pr aI (pr dG (pr ce (pr (.mn K0 ap) oO)))))))))<|ck fun F p0 p1 p2 p3 p4 p5 p6=>by
 have:=@bz F ap (.mn K0 ap)
 have:=(@aW F _ _ _ _).mp p6
 have hr2:(E.I F _=3)->(E.I F _=E.I F _-E.I F _)->(0<=E.I F _)->(E.I F _<=E.I F _)->E.B F (fn _ (pr _ (pr _ (pr _ (pr (.ar .sub .i64 ap (.mn K0 ap)) (pr _ (pr _ (pr ce (pr (.mn K0 ap) (pr aq (pr ak (pr ay (pr ap (pr aI (pr dG _)))))))))))))))=true:=fun s0 s1 s2 s3=>Ux s0 s1 s2 s3
 try simp only[ab]at *
 grind
def aCL:=fb (xa::lF) (fn 170 (pr aq (pr ak (pr (.ar .sub .i64 ay (.mn K0 ay)) (pr ap (pr aI (pr dG (pr ce (pr (.mn K0 ay) oO)))))))))<|am fun F p0 p1 p2=>by
 have:=@bz F ay (.mn K0 ay)
 have:=(@aW F _ _ _ _).mp p2
 have hr2:(E.I F _=2)->(E.I F _=E.I F _-E.I F _)->(0<=E.I F _)->(E.I F _<=E.I F _)->E.B F (fn _ (pr _ (pr _ (pr (.ar .sub .i64 ay (.mn K0 ay)) (pr _ (pr _ (pr _ (pr ce (pr (.mn K0 ay) (pr aq (pr ak (pr ay (pr ap (pr aI (pr dG _)))))))))))))))=true:=fun s0 s1 s2 s3=>acR s0 s1 s2 s3
 try simp only[ab]at *
 grind
def atm:=fb (zw::lF) (fn 170 (pr aq (pr (.ar .sub .i64 ak (.mn K0 ak)) (pr ay (pr ap (pr aI (pr dG (pr ce (pr (.mn K0 ak) oO)))))))))<|am fun F p0 p1 p2=>by
 have:=@bz F ak (.mn K0 ak)
 have:=(@aW F _ _ _ _).mp p2
 have hr2:(E.I F _=1)->(E.I F _=E.I F _-E.I F _)->(0<=E.I F _)->(E.I F _<=E.I F _)->E.B F (fn _ (pr _ (pr (.ar .sub .i64 ak (.mn K0 ak)) (pr _ (pr _ (pr _ (pr _ (pr ce (pr (.mn K0 ak) (pr aq (pr ak (pr ay (pr ap (pr aI (pr dG _)))))))))))))))=true:=fun s0 s1 s2 s3=>adM s0 s1 s2 s3
 try simp only[ab]at *
 grind
def aBi:=fb (yI::lF) (fn 170 (pr (.ar .sub .i64 aq (.mn K0 aq)) (pr ak (pr ay (pr ap (pr aI (pr dG (pr ce (pr (.mn K0 aq) oO)))))))))<|am fun F p0 p1 p2=>by
 have:=@bz F aq (.mn K0 aq)
 have:=(@aW F _ _ _ _).mp p2
 have hr2:(E.I F _=0)->(E.I F _=E.I F _-E.I F _)->(0<=E.I F _)->(E.I F _<=E.I F _)->E.B F (fn _ (pr (.ar .sub .i64 aq (.mn K0 aq)) (pr _ (pr _ (pr _ (pr _ (pr _ (pr ce (pr (.mn K0 aq) (pr aq (pr ak (pr ay (pr ap (pr aI (pr dG _)))))))))))))))=true:=fun s0 s1 s2 s3=>adH s0 s1 s2 s3
 try simp only[ab]at *
 grind
def aBm:=fb (hJ::MR::qv::Nj::aaK) (fn 171 Qb)<|cU fun F p0 p1 p2 p3 p4 p5 p6 p7=>by
 have hr4:(E.I F _=-1)->(E.I F _=E.I F vS*2)->(E.B F _=true)->(0<=E.I F _)->(E.I F _<=3)->(0<=E.I F _)->(E.I F _<E.I F _)->E.B F (fn _ (pr _ (pr K0 _)))=true:=fun s0 s1 s2 s3 s4 s5 s6=>JX p3 s0 s1 s2 s3 s4 s5 s6
 try simp only[ab]at *
 grind
def aDR:=fb ((.not hJ)::Nj::WJ) (fn 170 (pr n6 (pr mS (pr mI (pr cb (pr l4 (pr zi Qb)))))))<|am fun F p0 p1 p2=>by
 have hr4:(E.I F _=E.I F _)->E.B F (fn _ (pr _ (pr _ (pr _ (pr _ (pr _ (pr _ (pr _ (pr K0 _)))))))))=true:=fun s0=>fA p1 s0
 try simp only[ab]at *
 grind
def aq4:=fb (hJ::adk::qv::Nj::Ob) (fn 170 (pr n6 (pr mS (pr mI (pr cb (pr Do (pr CL (pr ce (pr (.ar .add .i64 eE (.int 1)) oO)))))))))<|cU fun F p0 p1 p2 p3 p4 p5 p6 p7=>by
 have:=@aA F eE (.int 1)
 have hr4:(E.B F _=true)->(0<=E.I F _)->(E.I F _<=3)->(0<=E.I F _)->(E.I F _=E.I F _+1)->E.B F (fn _ (pr _ (pr _ (pr _ (pr _ (pr _ (pr _ (pr _ (pr (.ar .add .i64 eE (.int 1)) _)))))))))=true:=fun s0 s1 s2 s3 s4=>LH p3 p1 s0 s1 s2 s3 s4
 try simp only[ab]at *
 grind
def oB:List Fa:=[aa1,Pd,Xs,abS,UM,Wr,acZ,WT,aeh,QF,TO,Rr,ayG,aCL,atm,aBi,acX,RQ,aeF,Vz,aBm,aaC,aDR,Ow,aq4,Va,Pe,abi]
theorem aEL:aU Try.prog (bn (adq true)):=sc oB (OG true) Zq ([]) (by kernel_rfl) (by kernel_rfl)
def aeO:Nl:=nc aEL Zq
def aGV:=fb Dh qZ<|am fun F p0 p1 p2=>by
 have:=(@aW F _ _ _ _).mp p0
 try simp only[ab]at *
 grind
def avu:=fb Dh qd<|am fun F p0 p1 p2=>by
 have:=(@aW F _ _ _ _).mp p0
 try simp only[ab]at *
 grind
def abR:=fb HR Bu<|aF fun F p0 p1 p2 p3=>by
 have:=@bz F ap (.int 1)
 have:=(@aW F _ _ _ _).mp p0
 rw[show E.B F _=true↔_ from iff_of_eq (@aW F _ _ _ _)]
 try simp only[ab]at *
 grind
def agZ:=fb Fd qZ<|am fun F p0 p1 p2=>by
 have:=(@aW F _ _ _ _).mp p0
 try simp only[ab]at *
 grind
def ajR:=fb Fd qd<|am fun F p0 p1 p2=>by
 have:=(@aW F _ _ _ _).mp p0
 try simp only[ab]at *
 grind
def YY:=fb ([dt,mD,uX]) TR<|am fun F p0 p1 p2=>by
 have:=@bz F ay (.int 1)
 have:=(@aW F _ _ _ _).mp p0
 rw[show E.B F _=true↔_ from iff_of_eq (@aW F _ _ _ _)]
 try simp only[ab]at *
 grind
def azv:=fb Cp qZ<|am fun F p0 p1 p2=>by
 have:=(@aW F _ _ _ _).mp p0
 try simp only[ab]at *
 grind
def au2:=fb Cp qd<|am fun F p0 p1 p2=>by
 have:=(@aW F _ _ _ _).mp p0
 try simp only[ab]at *
 grind
def Sb:=fb GA Bu<|aF fun F p0 p1 p2 p3=>by
 have:=@bz F ap (.int 1)
 have:=(@aW F _ _ _ _).mp p0
 rw[show E.B F _=true↔_ from iff_of_eq (@aW F _ _ _ _)]
 try simp only[ab]at *
 grind
def aiL:=fb Dw qZ<|am fun F p0 p1 p2=>by
 have:=(@aW F _ _ _ _).mp p0
 try simp only[ab]at *
 grind
def aEd:=fb Dw qd<|am fun F p0 p1 p2=>by
 have:=(@aW F _ _ _ _).mp p0
 try simp only[ab]at *
 grind
def aa5:=fb ([dt,mD]) (fn 188 (pr aq (pr (.ar .sub .i64 ak (.int 1)) IE)))<|au fun F p0 p1=>by
 have:=@bz F ak (.int 1)
 have:=(@aW F _ _ _ _).mp p0
 rw[show E.B F _=true↔_ from iff_of_eq (@aW F _ _ _ _)]
 try simp only[ab]at *
 grind
def aba:=fb FT Bu<|aF fun F p0 p1 p2 p3=>by
 have:=@bz F ap (.int 1)
 have:=(@aW F _ _ _ _).mp p0
 rw[show E.B F _=true↔_ from iff_of_eq (@aW F _ _ _ _)]
 try simp only[ab]at *
 grind
def aFZ:=fb AZ qZ<|am fun F p0 p1 p2=>by
 have:=(@aW F _ _ _ _).mp p0
 try simp only[ab]at *
 grind
def azJ:=fb AZ qd<|am fun F p0 p1 p2=>by
 have:=(@aW F _ _ _ _).mp p0
 try simp only[ab]at *
 grind
def aaJ:=fb ([dt,ni,ui]) TR<|am fun F p0 p1 p2=>by
 have:=@bz F ay (.int 1)
 have:=(@aW F _ _ _ _).mp p0
 rw[show E.B F _=true↔_ from iff_of_eq (@aW F _ _ _ _)]
 try simp only[ab]at *
 grind
def aGY:=fb Ad qZ<|am fun F p0 p1 p2=>by
 have:=(@aW F _ _ _ _).mp p0
 try simp only[ab]at *
 grind
def auh:=fb Ad qd<|am fun F p0 p1 p2=>by
 have:=(@aW F _ _ _ _).mp p0
 try simp only[ab]at *
 grind
def aeQ:=fb Ln Bu<|aF fun F p0 p1 p2 p3=>by
 have:=@bz F ap (.int 1)
 have:=(@aW F _ _ _ _).mp p0
 rw[show E.B F _=true↔_ from iff_of_eq (@aW F _ _ _ _)]
 try simp only[ab]at *
 grind
def aiu:=fb Nk qZ<|ck fun F p0 p1 p2 p3 p4 p5 p6=>by
 have hr1:(E.I F _=-1)->(E.I F _=E.I F cK*2)->(E.I F _<=0)->(E.I F _<=0)->(E.I F _<=0)->(E.I F _<=0)->E.B F (fn _ (pr _ (pr _ (pr aq (pr ak (pr ay (pr ap (pr aI (pr (fn 10 (.int 0)) _)))))))))=true:=fun s0 s1 s2 s3 s4 s5=>T4 s0 s1 s2 s3 s4 s5
 try simp only[ab]at *
 grind
def asK:=fb ([dt,ni,ym,CY,wN,(fn 174 (pr nd (pr tR (pr (.int (-1)) Da))))]) qd<|bU fun F p0 p1 p2 p3 p4 p5=>by
 have hr1:(E.I F _<=0)->(E.I F _<=0)->(E.I F _<=0)->(E.I F _<=0)->E.B F (fn _ (pr _ (pr _ (pr _ (pr _ (pr _ (pr _ (pr _ (pr _ (pr aq (pr ak (pr ay (pr ap _)))))))))))))=true:=fun s0 s1 s2 s3=>Nv p5 s0 s1 s2 s3
 try simp only[ab]at *
 grind
def SZ:=fb ([dt,(.not wN)]) (fn 188 (pr (.ar .sub .i64 aq (.int 1)) Hi))<|au fun F p0 p1=>by
 have:=@bz F aq (.int 1)
 have:=(@aW F _ _ _ _).mp p0
 rw[show E.B F _=true↔_ from iff_of_eq (@aW F _ _ _ _)]
 try simp only[ab]at *
 grind
def alF:=fb HR BW<|aF fun F p0 p1 p2 p3=>by
 have:=@bz F ap (.int 1)
 have:=(@aW F _ _ _ _).mp p0
 have hr1:(E.I F _=E.I F _-1)->(E.I F _<E.I F _)->(E.I F _<E.I F _)->(E.I F _<E.I F _)->(0<E.I F _)->(E.I F _=1)->E.B F (fn _ (pr _ (pr _ (pr _ (pr (.ar .sub .i64 ap (.int 1)) (pr _ (pr _ (pr _ (pr (.int 1) (pr aq (pr ak (pr ay (pr ap (pr aI (pr (fn 10 (.int 0)) _)))))))))))))))=true:=fun s0 s1 s2 s3 s4 s5=>fA (pG s0 s1 s2 s3 s4) s5
 try simp only[ab]at *
 grind
def aia:=fb ([dt,mD,uX,qe]) VL<|aF fun F p0 p1 p2 p3=>by
 have:=@bz F ay (.int 1)
 have:=(@aW F _ _ _ _).mp p0
 have hr1:(E.I F _=E.I F _-1)->(E.I F _<E.I F _)->(E.I F _<E.I F _)->(E.I F _<=E.I F _)->(0<E.I F _)->(E.I F _=1)->E.B F (fn _ (pr _ (pr _ (pr (.ar .sub .i64 ay (.int 1)) (pr _ (pr _ (pr _ (pr _ (pr (.int 1) (pr aq (pr ak (pr ay (pr ap (pr aI (pr (fn 10 (.int 0)) _)))))))))))))))=true:=fun s0 s1 s2 s3 s4 s5=>fA (E6 s0 s1 s2 s3 s4) s5
 try simp only[ab]at *
 grind
def amw:=fb GA BW<|aF fun F p0 p1 p2 p3=>by
 have:=@bz F ap (.int 1)
 have:=(@aW F _ _ _ _).mp p0
 have hr1:(E.I F _=E.I F _-1)->(E.I F _<E.I F _)->(E.I F _<E.I F _)->(E.I F _<E.I F _)->(0<E.I F _)->(E.I F _=1)->E.B F (fn _ (pr _ (pr _ (pr _ (pr (.ar .sub .i64 ap (.int 1)) (pr _ (pr _ (pr _ (pr (.int 1) (pr aq (pr ak (pr ay (pr ap (pr aI (pr (fn 10 (.int 0)) _)))))))))))))))=true:=fun s0 s1 s2 s3 s4 s5=>fA (pG s0 s1 s2 s3 s4) s5
 try simp only[ab]at *
 grind
def aC5:=fb Vx (fn 170 (pr aq (pr (.ar .sub .i64 ak (.int 1)) Sg)))<|aF fun F p0 p1 p2 p3=>by
 have:=@bz F ak (.int 1)
 have:=(@aW F _ _ _ _).mp p0
 have hr1:(E.I F _=E.I F _-1)->(E.I F _<E.I F _)->(E.I F _<=E.I F _)->(E.I F _<=E.I F _)->(0<E.I F _)->(E.I F _=1)->E.B F (fn _ (pr _ (pr (.ar .sub .i64 ak (.int 1)) (pr _ (pr _ (pr _ (pr _ (pr _ (pr (.int 1) (pr aq (pr ak (pr ay (pr ap (pr aI (pr (fn 10 (.int 0)) _)))))))))))))))=true:=fun s0 s1 s2 s3 s4 s5=>fA (acg s0 s1 s2 s3 s4) s5
 try simp only[ab]at *
 grind
def aCz:=fb FT BW<|aF fun F p0 p1 p2 p3=>by
 have:=@bz F ap (.int 1)
 have:=(@aW F _ _ _ _).mp p0
 have hr1:(E.I F _=E.I F _-1)->(E.I F _<E.I F _)->(E.I F _<E.I F _)->(E.I F _<E.I F _)->(0<E.I F _)->(E.I F _=1)->E.B F (fn _ (pr _ (pr _ (pr _ (pr (.ar .sub .i64 ap (.int 1)) (pr _ (pr _ (pr _ (pr (.int 1) (pr aq (pr ak (pr ay (pr ap (pr aI (pr (fn 10 (.int 0)) _)))))))))))))))=true:=fun s0 s1 s2 s3 s4 s5=>fA (pG s0 s1 s2 s3 s4) s5
 try simp only[ab]at *
 grind
def aop:=fb ([dt,ni,ui,qe]) VL<|aF fun F p0 p1 p2 p3=>by
 have:=@bz F ay (.int 1)
 have:=(@aW F _ _ _ _).mp p0
 have hr1:(E.I F _=E.I F _-1)->(E.I F _<E.I F _)->(E.I F _<E.I F _)->(E.I F _<=E.I F _)->(0<E.I F _)->(E.I F _=1)->E.B F (fn _ (pr _ (pr _ (pr (.ar .sub .i64 ay (.int 1)) (pr _ (pr _ (pr _ (pr _ (pr (.int 1) (pr aq (pr ak (pr ay (pr ap (pr aI (pr (fn 10 (.int 0)) _)))))))))))))))=true:=fun s0 s1 s2 s3 s4 s5=>fA (E6 s0 s1 s2 s3 s4) s5
 try simp only[ab]at *
 grind
def azc:=fb Ln BW<|aF fun F p0 p1 p2 p3=>by
 have:=@bz F ap (.int 1)
 have:=(@aW F _ _ _ _).mp p0
 have hr1:(E.I F _=E.I F _-1)->(E.I F _<E.I F _)->(E.I F _<E.I F _)->(E.I F _<E.I F _)->(0<E.I F _)->(E.I F _=1)->E.B F (fn _ (pr _ (pr _ (pr _ (pr (.ar .sub .i64 ap (.int 1)) (pr _ (pr _ (pr _ (pr (.int 1) (pr aq (pr ak (pr ay (pr ap (pr aI (pr (fn 10 (.int 0)) _)))))))))))))))=true:=fun s0 s1 s2 s3 s4 s5=>fA (pG s0 s1 s2 s3 s4) s5
 try simp only[ab]at *
 grind
def aCI:=fb abX (fn 170 (pr (.ar .sub .i64 aq (.int 1)) (pr ak Sg)))<|aT fun F p0 p1 p2 p3 p4=>by
 have:=@bz F aq (.int 1)
 have:=(@aW F _ _ _ _).mp p0
 have hr1:(E.I F _=E.I F _-1)->(E.I F _<=E.I F _)->(E.I F _<=E.I F _)->(E.I F _<=E.I F _)->(0<E.I F _)->(E.I F _=1)->E.B F (fn _ (pr (.ar .sub .i64 aq (.int 1)) (pr _ (pr _ (pr _ (pr _ (pr _ (pr _ (pr (.int 1) (pr aq (pr ak (pr ay (pr ap (pr aI (pr (fn 10 (.int 0)) _)))))))))))))))=true:=fun s0 s1 s2 s3 s4 s5=>fA (Q4 s0 s1 s2 s3 s4) s5
 try simp only[ab]at *
 grind
def Bh:List Fa:=[aGV,avu,abR,agZ,ajR,YY,azv,au2,Sb,aiL,aEd,aa5,aba,aFZ,azJ,aaJ,aGY,auh,aeQ,aiu,asK,SZ,alF,aia,amw,aC5,aCz,aop,azc,aCI]
theorem ae5:aU Try.prog (bn (SA false)):=sc Bh ([]) aeO ([]) (by kernel_rfl) (by kernel_rfl)
def adJ:Nl:=nc ae5 aeO
def awd:=fb Dh qr<|am fun F p0 p1 p2=>by
 have:=(@aW F _ _ _ _).mp p0
 try simp only[ab]at *
 grind
def as0:=fb Dh qM<|am fun F p0 p1 p2=>by
 have:=(@aW F _ _ _ _).mp p0
 try simp only[ab]at *
 grind
def akD:=fb Fd qr<|am fun F p0 p1 p2=>by
 have:=(@aW F _ _ _ _).mp p0
 try simp only[ab]at *
 grind
def ajm:=fb Fd qM<|am fun F p0 p1 p2=>by
 have:=(@aW F _ _ _ _).mp p0
 try simp only[ab]at *
 grind
def aFU:=fb Cp qr<|am fun F p0 p1 p2=>by
 have:=(@aW F _ _ _ _).mp p0
 try simp only[ab]at *
 grind
def aGb:=fb Cp qM<|am fun F p0 p1 p2=>by
 have:=(@aW F _ _ _ _).mp p0
 try simp only[ab]at *
 grind
def awB:=fb Dw qr<|am fun F p0 p1 p2=>by
 have:=(@aW F _ _ _ _).mp p0
 try simp only[ab]at *
 grind
def ajg:=fb Dw qM<|am fun F p0 p1 p2=>by
 have:=(@aW F _ _ _ _).mp p0
 try simp only[ab]at *
 grind
def axi:=fb AZ qr<|am fun F p0 p1 p2=>by
 have:=(@aW F _ _ _ _).mp p0
 try simp only[ab]at *
 grind
def ahF:=fb AZ qM<|am fun F p0 p1 p2=>by
 have:=(@aW F _ _ _ _).mp p0
 try simp only[ab]at *
 grind
def aG4:=fb Ad qr<|am fun F p0 p1 p2=>by
 have:=(@aW F _ _ _ _).mp p0
 try simp only[ab]at *
 grind
def aBw:=fb Ad qM<|am fun F p0 p1 p2=>by
 have:=(@aW F _ _ _ _).mp p0
 try simp only[ab]at *
 grind
def aDH:=fb Nk qr<|ck fun F p0 p1 p2 p3 p4 p5 p6=>by
 have hr1:(E.I F _=-1)->(E.I F _=E.I F cK*2)->(E.I F _<=0)->(E.I F _<=0)->(E.I F _<=0)->(E.I F _<=0)->E.B F (fn _ (pr _ (pr _ (pr aq (pr ak (pr ay (pr ap (pr aI (pr dG _)))))))))=true:=fun s0 s1 s2 s3 s4 s5=>T4 s0 s1 s2 s3 s4 s5
 try simp only[ab]at *
 grind
def ave:=fb ([dt,ni,ym,CY,wN,(fn 174 (pr nd (pr tR (pr (.int (-1)) BZ))))]) qM<|bU fun F p0 p1 p2 p3 p4 p5=>by
 have hr1:(E.I F _<=0)->(E.I F _<=0)->(E.I F _<=0)->(E.I F _<=0)->E.B F (fn _ (pr _ (pr _ (pr _ (pr _ (pr _ (pr _ (pr _ (pr _ (pr aq (pr ak (pr ay (pr ap _)))))))))))))=true:=fun s0 s1 s2 s3=>Nv p5 s0 s1 s2 s3
 try simp only[ab]at *
 grind
def atw:=fb HR DT<|aF fun F p0 p1 p2 p3=>by
 have:=@bz F ap (.int 1)
 have:=(@aW F _ _ _ _).mp p0
 have hr1:(E.I F _=E.I F _-1)->(E.I F _<E.I F _)->(E.I F _<E.I F _)->(E.I F _<E.I F _)->(0<E.I F _)->(E.I F _=1)->E.B F (fn _ (pr _ (pr _ (pr _ (pr (.ar .sub .i64 ap (.int 1)) (pr _ (pr _ (pr _ (pr (.int 1) (pr aq (pr ak (pr ay (pr ap (pr aI (pr dG _)))))))))))))))=true:=fun s0 s1 s2 s3 s4 s5=>fA (pG s0 s1 s2 s3 s4) s5
 try simp only[ab]at *
 grind
def ajq:=fb ([dt,mD,uX,qe]) aaF<|aF fun F p0 p1 p2 p3=>by
 have:=@bz F ay (.int 1)
 have:=(@aW F _ _ _ _).mp p0
 have hr1:(E.I F _=E.I F _-1)->(E.I F _<E.I F _)->(E.I F _<E.I F _)->(E.I F _<=E.I F _)->(0<E.I F _)->(E.I F _=1)->E.B F (fn _ (pr _ (pr _ (pr (.ar .sub .i64 ay (.int 1)) (pr _ (pr _ (pr _ (pr _ (pr (.int 1) (pr aq (pr ak (pr ay (pr ap (pr aI (pr dG _)))))))))))))))=true:=fun s0 s1 s2 s3 s4 s5=>fA (E6 s0 s1 s2 s3 s4) s5
 try simp only[ab]at *
 grind
def aDh:=fb GA DT<|aF fun F p0 p1 p2 p3=>by
 have:=@bz F ap (.int 1)
 have:=(@aW F _ _ _ _).mp p0
 have hr1:(E.I F _=E.I F _-1)->(E.I F _<E.I F _)->(E.I F _<E.I F _)->(E.I F _<E.I F _)->(0<E.I F _)->(E.I F _=1)->E.B F (fn _ (pr _ (pr _ (pr _ (pr (.ar .sub .i64 ap (.int 1)) (pr _ (pr _ (pr _ (pr (.int 1) (pr aq (pr ak (pr ay (pr ap (pr aI (pr dG _)))))))))))))))=true:=fun s0 s1 s2 s3 s4 s5=>fA (pG s0 s1 s2 s3 s4) s5
 try simp only[ab]at *
 grind
def aAw:=fb Vx (fn 170 (pr aq (pr (.ar .sub .i64 ak (.int 1)) abf)))<|aF fun F p0 p1 p2 p3=>by
 have:=@bz F ak (.int 1)
 have:=(@aW F _ _ _ _).mp p0
 have hr1:(E.I F _=E.I F _-1)->(E.I F _<E.I F _)->(E.I F _<=E.I F _)->(E.I F _<=E.I F _)->(0<E.I F _)->(E.I F _=1)->E.B F (fn _ (pr _ (pr (.ar .sub .i64 ak (.int 1)) (pr _ (pr _ (pr _ (pr _ (pr _ (pr (.int 1) (pr aq (pr ak (pr ay (pr ap (pr aI (pr dG _)))))))))))))))=true:=fun s0 s1 s2 s3 s4 s5=>fA (acg s0 s1 s2 s3 s4) s5
 try simp only[ab]at *
 grind
def aDN:=fb FT DT<|aF fun F p0 p1 p2 p3=>by
 have:=@bz F ap (.int 1)
 have:=(@aW F _ _ _ _).mp p0
 have hr1:(E.I F _=E.I F _-1)->(E.I F _<E.I F _)->(E.I F _<E.I F _)->(E.I F _<E.I F _)->(0<E.I F _)->(E.I F _=1)->E.B F (fn _ (pr _ (pr _ (pr _ (pr (.ar .sub .i64 ap (.int 1)) (pr _ (pr _ (pr _ (pr (.int 1) (pr aq (pr ak (pr ay (pr ap (pr aI (pr dG _)))))))))))))))=true:=fun s0 s1 s2 s3 s4 s5=>fA (pG s0 s1 s2 s3 s4) s5
 try simp only[ab]at *
 grind
def aDg:=fb ([dt,ni,ui,qe]) aaF<|aF fun F p0 p1 p2 p3=>by
 have:=@bz F ay (.int 1)
 have:=(@aW F _ _ _ _).mp p0
 have hr1:(E.I F _=E.I F _-1)->(E.I F _<E.I F _)->(E.I F _<E.I F _)->(E.I F _<=E.I F _)->(0<E.I F _)->(E.I F _=1)->E.B F (fn _ (pr _ (pr _ (pr (.ar .sub .i64 ay (.int 1)) (pr _ (pr _ (pr _ (pr _ (pr (.int 1) (pr aq (pr ak (pr ay (pr ap (pr aI (pr dG _)))))))))))))))=true:=fun s0 s1 s2 s3 s4 s5=>fA (E6 s0 s1 s2 s3 s4) s5
 try simp only[ab]at *
 grind
def atq:=fb Ln DT<|aF fun F p0 p1 p2 p3=>by
 have:=@bz F ap (.int 1)
 have:=(@aW F _ _ _ _).mp p0
 have hr1:(E.I F _=E.I F _-1)->(E.I F _<E.I F _)->(E.I F _<E.I F _)->(E.I F _<E.I F _)->(0<E.I F _)->(E.I F _=1)->E.B F (fn _ (pr _ (pr _ (pr _ (pr (.ar .sub .i64 ap (.int 1)) (pr _ (pr _ (pr _ (pr (.int 1) (pr aq (pr ak (pr ay (pr ap (pr aI (pr dG _)))))))))))))))=true:=fun s0 s1 s2 s3 s4 s5=>fA (pG s0 s1 s2 s3 s4) s5
 try simp only[ab]at *
 grind
def ai6:=fb abX (fn 170 (pr (.ar .sub .i64 aq (.int 1)) (pr ak abf)))<|aT fun F p0 p1 p2 p3 p4=>by
 have:=@bz F aq (.int 1)
 have:=(@aW F _ _ _ _).mp p0
 have hr1:(E.I F _=E.I F _-1)->(E.I F _<=E.I F _)->(E.I F _<=E.I F _)->(E.I F _<=E.I F _)->(0<E.I F _)->(E.I F _=1)->E.B F (fn _ (pr (.ar .sub .i64 aq (.int 1)) (pr _ (pr _ (pr _ (pr _ (pr _ (pr _ (pr (.int 1) (pr aq (pr ak (pr ay (pr ap (pr aI (pr dG _)))))))))))))))=true:=fun s0 s1 s2 s3 s4 s5=>fA (Q4 s0 s1 s2 s3 s4) s5
 try simp only[ab]at *
 grind
def p46:List Fa:=[awd,as0,abR,akD,ajm,YY,aFU,aGb,Sb,awB,ajg,aa5,aba,axi,ahF,aaJ,aG4,aBw,aeQ,aDH,ave,SZ,atw,ajq,aDh,aAw,aDN,aDg,atq,ai6]
theorem aym:aU Try.prog (bn (SA true)):=sc p46 ([]) adJ ([]) (by kernel_rfl) (by kernel_rfl)
def adw:Nl:=nc aym adJ
end
end Go.Proofs.Ytnnbmcfabojjjaa.payColours
