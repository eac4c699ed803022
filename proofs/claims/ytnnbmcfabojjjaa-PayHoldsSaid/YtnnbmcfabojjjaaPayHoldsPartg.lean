/-
  PayHolds: contracts of functions, part 7.
-/
import Derived.Test.YtnnbmcfabojjjaaRows
import Derived.Test.YtnnbmcfabojjjaaNat
import Derived.WalkKit
import Derived.ProofKit
import Derived.OpenShut
import Derived.ChangeOld
import Derived.Below
import Derived.KernelRfl
import Derived.Lib.SmallJoins
import Derived.Laws.IdiomArrays
import Derived.Test.YtnnbmcfabojjjaaPayHoldsPartf
namespace Go.Proofs.Ytnnbmcfabojjjaa.payHolds
open Go.ChangeShapes Go.WideShapes Go.ChangeAt Go.RowKit
open Go.SX
open Go.SX.E (fn pr cmp var)
set_option linter.unusedVariables false
set_option linter.unusedSimpArgs false
set_option maxRecDepth 100000
noncomputable section
abbrev N0:E:=var 3
abbrev N1:E:=var 0
abbrev N2:E:=var 8
abbrev N3:E:=var 1
abbrev N4:E:=cmp .lss N2 N3
abbrev N5:E:=cmp .eql (fn 1 (pr N1 (fn 6 (pr (fn 8 (pr N2 (.int 2))) (.int 1))))) N0
abbrev N6:E:=cmp .eql (fn 175 (pr N0 (pr N1 N2))) (.int (-1))
abbrev N7:E:=cmp .lss N2 (.int 0)
abbrev N8:E:=.not N7
abbrev N9:E:=cmp .eql (fn 0 N1) (fn 8 (pr N3 (.int 2)))
abbrev Zw:=[N8,N9]
abbrev mu:E:=.not (cmp .lss (.int 30) N3)
abbrev QV:=[N8,mu]
abbrev Pm:=N4::QV
abbrev N14:E:=cmp .lss N3 N2
abbrev XE:E:=.not N14
abbrev PK:=[XE]
abbrev N17:=XE::QV
abbrev S9:=N4::N17
abbrev l3:E:=.not (cmp .lss N0 (.int 0))
abbrev N20:E:=cmp .eql (fn 175 (pr (.int (-1)) (pr N1 N2))) (.int (-1))
abbrev aZ:E:=var 4
abbrev lk:E:=cmp .eql aZ (.ar .add .i64 N0 (.int 1))
abbrev je:E:=cmp .lss N0 N3
abbrev aK:E:=var 2
abbrev xm:E:=.not (cmp .lss aK N3)
abbrev N26:E:=cmp .lss N3 (.int 0)
abbrev M2:E:=.not N26
abbrev N28:=[M2]
abbrev N29:=xm::N28
abbrev N30:=mu::N29
abbrev N31:=l3::N30
abbrev N32:=je::N31
abbrev Yo:=lk::N32
abbrev Se:=mu::N28
abbrev nz:=lk::je::l3::Se
abbrev fO:=[je,(cmp .eql N3 N0)]
abbrev Qd:E:=cmp .eql N3 (fn 7 (pr N3 (.int 1)))
abbrev DH:E:=cmp .lss aK N0
abbrev qy:E:=.not DH
abbrev N40:E:=cmp .eql aK aZ
abbrev YF:=[N40]
abbrev N42:=xm::YF
abbrev N43:=je::N42
abbrev UX:=lk::N43
abbrev xp:E:=pr N1 N0
abbrev N46:E:=fn 186 (pr N1 xp)
abbrev Ku:E:=cmp .lss N3 N0
abbrev KM:E:=.not Ku
abbrev N49:E:=cmp .lss aK (.int 0)
abbrev IU:E:=.not N49
abbrev N51:E:=cmp .lss (fn 7 (pr N3 aZ)) (.int 0)
abbrev N52:E:=.not N51
abbrev YA:=N9::N42
abbrev N54:E:=cmp .lss (.int 2147483648) N0
abbrev VP:E:=.not N54
abbrev N56:E:=cmp .lss N3 (fn 6 (pr aZ (fn 7 (pr N3 aZ))))
abbrev TP:E:=.not N56
abbrev N58:E:=cmp .lss (.int 2147483648) (fn 6 (pr N0 (fn 7 (pr N3 aZ))))
abbrev Wd:E:=.not N58
abbrev N60:E:=cmp .lss (fn 6 (pr N0 (fn 7 (pr N3 aZ)))) (.int 0)
abbrev VI:E:=.not N60
abbrev N62:E:=cmp .eql (fn 7 (pr N3 N0)) (.int 1)
abbrev N63:=M2::YF
abbrev N64:=xm::N63
abbrev N65:=mu::N64
abbrev N66:=l3::N65
abbrev N67:=je::N66
abbrev N68:=lk::N67
abbrev N69:E:=cmp .lss N3 (fn 6 (pr N0 (fn 7 (pr N3 aZ))))
abbrev TH:E:=.not N69
abbrev N71:E:=cmp .eql (fn 7 (pr N3 (fn 6 (pr N0 (fn 7 (pr N3 aZ)))))) (.int 1)
abbrev N72:E:=cmp .eql N0 (fn 7 (pr N3 (.int 1)))
abbrev WR:E:=cmp .lss (fn 6 (pr N0 (fn 7 (pr N3 aZ)))) aK
abbrev Vu:E:=cmp .eql (fn 6 (pr (fn 0 (fn 18 (pr N1 (fn 8 (pr N0 (.int 2)))))) (fn 0 (fn 18 (pr N1 (fn 8 (pr (.int 0) (.int 2)))))))) (fn 8 (pr N0 (.int 2)))
abbrev N75:=mu::YA
abbrev N76:=l3::N75
abbrev N77:=je::N76
abbrev Yf:=lk::N77
abbrev N79:E:=cmp .eql (fn 6 (pr N0 (fn 7 (pr N3 aZ)))) (fn 7 (pr N3 (.int 1)))
abbrev N80:E:=pr (fn 3 (pr (fn 18 (pr N1 (fn 8 (pr N0 (.int 2))))) (fn 18 (pr N1 (fn 8 (pr (.int 0) (.int 2))))))) xp
abbrev PL:E:=fn 186 N80
abbrev WY:E:=cmp .eql (fn 6 (pr (fn 0 (fn 18 (pr N1 (fn 8 (pr N0 (.int 2)))))) (fn 0 (fn 4 (pr N1 (pr (fn 8 (pr aZ (.int 2))) (fn 8 (pr (fn 6 (pr aZ (fn 7 (pr N3 aZ)))) (.int 2))))))))) (fn 8 (pr (fn 6 (pr N0 (fn 7 (pr N3 aZ)))) (.int 2)))
abbrev N83:E:=pr (fn 3 (pr (fn 18 (pr N1 (fn 8 (pr N0 (.int 2))))) (fn 4 (pr N1 (pr (fn 8 (pr aZ (.int 2))) (fn 8 (pr (fn 6 (pr aZ (fn 7 (pr N3 aZ)))) (.int 2)))))))) xp
abbrev N84:E:=fn 186 N83
abbrev aJ:E:=var 11
abbrev cu:E:=var 10
abbrev fp:E:=var 5
abbrev Iw:E:=cmp .eql aJ (fn 175 (pr cu (pr aZ fp)))
abbrev Qr:E:=cmp .lss aJ (.int 0)
abbrev N90:E:=cmp .lss fp (.int 0)
abbrev QX:E:=.not N90
abbrev uY:E:=.not Qr
abbrev o9:E:=var 14
abbrev N94:E:=cmp .eql o9 (fn 7 (pr fp (.int 1)))
abbrev Cq:=[N94]
abbrev N96:E:=cmp .lss (var 6) fp
abbrev N97:E:=.not N96
abbrev N98:E:=cmp .lss (.int 30) fp
abbrev Lq:E:=.not N98
abbrev Lp:E:=cmp .eql (fn 0 aZ) (fn 8 (pr fp (.int 2)))
abbrev avJ:E:=pr (var 13) (pr aZ aJ)
abbrev amJ:E:=fn 186 avJ
abbrev aI7:=[amJ]
abbrev ark:=uY::aI7
abbrev aqm:=Iw::ark
abbrev aaB:=Lp::aqm
abbrev Ut:E:=pr (fn 10 (.int 0)) (.int 0)
abbrev FQ:E:=pr aZ Ut
abbrev Ac:E:=.not (cmp .lss (.int 30) (fn 6 (pr fp N2)))
abbrev eX:E:=var 7
abbrev acl:E:=cmp .eql (fn 0 eX) N2
abbrev atB:E:=cmp .lss N2 (.int 1)
abbrev aiL:E:=.not atB
abbrev afj:=[aiL]
abbrev aub:E:=cmp .lss (.int 2147483648) (fn 6 (pr N2 (.int 1)))
abbrev PS:E:=.not aub
abbrev FW:E:=pr aZ (pr eX (.int 0))
abbrev sI:E:=var 12
abbrev Mv:E:=cmp .eql sI (fn 175 (pr (.int (-1)) (pr aZ fp)))
abbrev Zc:E:=cmp .lss sI (.int 0)
abbrev WL:E:=cmp .eql (fn 175 (pr (.int (-1)) (pr aZ fp))) (.int (-1))
abbrev Mh:E:=.not Zc
abbrev oD:E:=var 15
abbrev aqA:E:=cmp .eql oD (fn 7 (pr fp (.int 1)))
abbrev E3:=[aqA]
abbrev aos:E:=pr o9 (pr aZ sI)
abbrev alY:E:=fn 186 aos
abbrev apw:=[alY]
abbrev ayY:=Mh::apw
abbrev avN:=Mv::ayY
abbrev Vz:=Lp::avN
abbrev Ju:E:=pr N0 (.int 0)
abbrev MP:E:=pr aK Ju
abbrev Je:E:=pr N3 MP
abbrev dV:E:=fn 188 (pr N1 Je)
abbrev mv:=[uY,dV]
abbrev A3:=[dV,uY]
abbrev zx:E:=cmp .eql cu (.int 0)
abbrev Ai:E:=cmp .eql cu (.int 1)
abbrev wT:E:=cmp .eql cu (.int 2)
abbrev ai9:E:=cmp .lss (.int 3) cu
abbrev Nm:E:=.not ai9
abbrev aHf:E:=cmp .lss cu (.int 0)
abbrev IA:E:=.not aHf
abbrev aDp:=[IA,dV]
abbrev Wv:=Nm::aDp
abbrev anm:=uY::Wv
abbrev avE:List E:=(.not wT)::anm
abbrev aID:List E:=(.not Ai)::avE
abbrev WV:List E:=(.not zx)::aID
abbrev pE:E:=pr N1 (pr N3 (pr aK (pr N0 FQ)))
abbrev rC:E:=.not (cmp .lss (.int 20) aJ)
abbrev He:E:=pr cu (.int 0)
abbrev adu:E:=pr N0 He
abbrev aer:E:=pr aK adu
abbrev fv:E:=var 34
abbrev jg:E:=cmp .lss fv aJ
abbrev me:E:=var 28
abbrev wP:E:=var 29
abbrev Lb:E:=cmp .eql (fn 175 (pr cu (pr me wP))) (.int (-1))
abbrev oN:E:=var 24
abbrev nT:E:=var 25
abbrev nZ:E:=var 26
abbrev nl:E:=var 27
abbrev ajw:E:=pr nZ (pr nl He)
abbrev aAU:E:=pr nT ajw
abbrev awh:E:=pr oN aAU
abbrev acQ:E:=fn 185 awh
abbrev ri:E:=.imp jg acQ
abbrev yk:E:=.not (cmp .lss fv (.int 0))
abbrev SR:E:=cmp .eql (fn 0 me) (fn 8 (pr wP (.int 2)))
abbrev awD:E:=pr fv pE
abbrev ag0:E:=pr cu awD
abbrev aiI:E:=pr (fn 10 (.int 0)) ag0
abbrev aFv:E:=pr me aiI
abbrev atm:E:=pr nl aFv
abbrev apY:E:=pr nZ atm
abbrev aim:E:=pr nT apY
abbrev aEb:E:=pr oN aim
abbrev auk:E:=fn 170 aEb
abbrev abB:=[auk]
abbrev aEh:=IA::abB
abbrev abY:=Nm::aEh
abbrev BC:E:=pr cu (pr aJ pE)
abbrev M5:=[yk,rC]
abbrev aJf:E:=cmp .lss aJ fv
abbrev Od:E:=.not aJf
abbrev yI:E:=var 31
abbrev LQ:E:=fn 170 (pr oN (pr nT (pr nZ (pr nl (pr me (pr yI ag0))))))
abbrev ajT:=[IA]
abbrev UF:=Nm::ajT
abbrev am8:=SR::UF
abbrev XC:=yk::am8
abbrev Sd:=[Od]
abbrev atu:=Od::M5
abbrev ae0:=jg::atu
abbrev CU:E:=var 40
abbrev BZ:E:=var 43
abbrev atL:E:=pr (.ar .add .i64 fv (.int 1)) pE
abbrev aEB:E:=pr cu atL
abbrev ak0:E:=pr BZ aEB
abbrev ahU:E:=pr CU ak0
abbrev awK:E:=pr nl ahU
abbrev ar3:E:=pr nZ awK
abbrev aiD:E:=pr nT ar3
abbrev aEK:E:=pr oN aiD
abbrev aev:E:=fn 170 aEK
abbrev akE:E:=pr me (pr yI (.int 0))
abbrev ay8:E:=pr cu akE
abbrev arx:E:=pr BZ ay8
abbrev aAB:E:=pr CU arx
abbrev Rl:E:=fn 174 aAB
abbrev aEp:=rC::UF
abbrev VM:=yk::aEp
abbrev qp:E:=pr N1 (pr N3 (pr aK (pr N0 FW)))
abbrev Nt:E:=fn 170 (pr oN (pr nT (pr nZ (pr nl (pr me (pr yI (pr cu (pr fv qp))))))))
abbrev acs:E:=pr cu (pr aJ qp)
abbrev aI3:E:=cmp .eql N0 (.int 0)
abbrev L3:=[aI3]
abbrev aji:=DH::L3
abbrev Gs:=dV::aji
abbrev KG:E:=pr (.int 4) (pr (.int 1) pE)
abbrev sf:E:=fn 171 KG
abbrev qZ:E:=fn 170 (pr N1 (pr N3 (pr aK (pr N0 (pr oD (pr (var 18) KG))))))
abbrev ot:E:=cmp .lss N1 N3
abbrev tL:E:=cmp .lss N3 aK
abbrev arj:=[ot,tL,DH]
abbrev HC:=dV::arj
abbrev Ec:E:=fn 188 (pr N1 (pr N3 (pr aK (pr (.ar .sub .i64 N0 (.int 1)) (.int 0)))))
abbrev aif:E:=cmp .eql aK (.int 0)
abbrev Vh:=[aif]
abbrev alK:=tL::Vh
abbrev BB:=dV::alK
abbrev aio:E:=pr (.ar .sub .i64 aK (.int 1)) Ju
abbrev alP:E:=pr N3 aio
abbrev ajS:E:=pr N1 alP
abbrev aaf:E:=fn 188 ajS
abbrev aiG:=Ku::L3
abbrev Gk:=dV::aiG
abbrev Yw:E:=.not tL
abbrev aDK:=[Yw,Ku]
abbrev aDH:=ot::aDK
abbrev NL:=dV::aDH
abbrev ar9:E:=cmp .eql N3 (.int 0)
abbrev awv:=[ar9]
abbrev ax6:=ot::awv
abbrev B6:=dV::ax6
abbrev oM:E:=.not ot
abbrev vP:E:=cmp .lss N1 aK
abbrev aGs:=[oM,vP,DH]
abbrev LR:=dV::aGs
abbrev aiE:=vP::Vh
abbrev F6:=dV::aiE
abbrev M7:E:=cmp .lss N1 N0
abbrev aoD:=M7::L3
abbrev DY:=dV::aoD
abbrev yw:E:=.not vP
abbrev alC:=[oM,yw,M7]
abbrev Np:=dV::alC
abbrev AR:E:=.not M7
abbrev yB:E:=cmp .eql N1 (.int 0)
abbrev ala:=[oM,yw,AR,yB,WL]
abbrev asP:=Lp::ala
abbrev agZ:=dV::asP
abbrev am2:E:=pr (fn 10 (.int 0)) KG
abbrev ack:E:=pr aZ am2
abbrev CZ:E:=fn 170 (pr N1 (pr N3 (pr aK (pr (.ar .sub .i64 N0 (.int 1)) ack))))
abbrev OQ:E:=pr N0 ack
abbrev aph:E:=pr (.ar .sub .i64 aK (.int 1)) OQ
abbrev avn:E:=pr N3 aph
abbrev alg:E:=pr N1 avn
abbrev Zb:E:=fn 170 alg
abbrev awu:=[Yw,KM]
abbrev aEe:=ot::awu
abbrev ZW:=dV::aEe
abbrev RK:E:=pr aK OQ
abbrev aCS:=[oM,yw,AR,(.not yB)]
abbrev ae9:=dV::aCS
abbrev Mq:E:=pr (.int 4) (pr (.int 1) qp)
abbrev rV:E:=fn 171 Mq
abbrev q9:E:=fn 170 (pr N1 (pr N3 (pr aK (pr N0 (pr oD (pr (var 18) Mq))))))
abbrev awl:E:=pr eX Mq
abbrev ab7:E:=pr aZ awl
abbrev Gt:E:=fn 170 (pr N1 (pr N3 (pr aK (pr (.ar .sub .i64 N0 (.int 1)) ab7))))
abbrev abN:E:=pr N0 ab7
abbrev au7:E:=pr (.ar .sub .i64 aK (.int 1)) abN
abbrev apW:E:=pr N3 au7
abbrev aBO:E:=pr N1 apW
abbrev adX:E:=fn 170 aBO
abbrev ZL:E:=pr aK abN
def aIN:=fa ((cmp .eql (fn 8 (pr (.int 0) (.int 2))) (.int 0)))<|fun F=>by
 rfl
def sn:List Fa:=[Ie,ae2,TD,aah,WB,aIN,XK,P4,aem,Xx,RQ,Wg,afc,Tj,TF,aek,SH,aeu,QB,adL,T3,aeg,ZT,Ow,PM,Sn,Q9,WK,afb,Wb,XZ,acg,agU,agW,aaF,TE,Pg]
theorem alq:aW Try.prog (bu (axL)):=sc sn (Qf) HO (msS) (by kernel_rfl) (by kernel_rfl)
def aad:Nl:=nc alq aqJ
def aDM:=fa ((cmp .eql (fn 175 (pr N0 (pr N1 (.int 0)))) (.int (-1))))<|fun F=>by
 rfl
def aoW:=fb (N4::N5::N6::Zw) (cmp .eql N2 (fn 175 (pr N0 (pr N1 N3))))<|aR fun F p0 p1 p2 p3 p4=>by
 have:=@ade F N1 N0 N3 N2
 try simp only[aa]at *
 grind
def aFT:=fb Pm (.not (cmp .lss (.ar .add .i64 N2 (.int 1)) (.int 0)))<|am fun F p0 p1 p2=>by
 try simp only[aa,ae]at *
 obtain⟨a7,ea7,qa7⟩:=ab ((E.I F N2)+(1))
 omega
def aoO:=fb ((.not N4)::N6::PK) (cmp .eql (fn 175 (pr N0 (pr N1 N3))) (.int (-1)))<|am fun F p0 p1 p2=>by
 have:=@RR F N1 N0 N3 N2
 try simp only[aa]at *
 grind
def aro:=fb S9 (.not (cmp .lss N3 (.ar .add .i64 N2 (.int 1))))<|aH fun F p0 p1 p2 p3=>by
 try simp only[aa,ae]at *
 obtain⟨a7,ea7,qa7⟩:=ab ((E.I F N2)+(1))
 omega
def ak4:=fb ([N4,(.not N5),N6,N8,l3,mu,N9]) (cmp .eql (fn 175 (pr N0 (pr N1 (.ar .add .i64 N2 (.int 1))))) (.int (-1)))<|de fun F p0 p1 p2 p3 p4 p5 p6=>by
 have:=@aM F N2 (.int 1)
 have:=@aqL F N1 N0 N3 (.ar .add .i64 N2 (.int 1)) N2
 try simp only[aa]at *
 grind
def as3:=fb Pm (cmp .lss (fn 7 (pr N3 (.ar .add .i64 N2 (.int 1)))) (fn 7 (pr N3 N2)))<|am fun F p0 p1 p2=>by
 try simp only[aa,ae]at *
 obtain⟨a7,ea7,qa7⟩:=ab ((E.I F N2)+(1))
 omega
def awV:=fb S9 (.not (cmp .lss (fn 7 (pr N3 (.ar .add .i64 N2 (.int 1)))) (.int 0)))<|aH fun F p0 p1 p2 p3=>by
 try simp only[aa,ae]at *
 obtain⟨a7,ea7,qa7⟩:=ab ((E.I F N2)+(1))
 omega
def rg:List Fa:=[aDM,aoW,aFT,aoO,aro,ak4,as3,awV]
theorem arl:aW Try.prog (bu (XQ false)):=sc rg (Rp false) aad ([]) (by kernel_rfl) (by kernel_rfl)
def YE:Nl:=nc arl aad
def aug:=fa ((cmp .eql (fn 175 (pr (.int (-1)) (pr N1 (.int 0)))) (.int (-1))))<|fun F=>by
 rfl
def auc:=fb (N4::N20::Zw) (cmp .eql N2 (fn 175 (pr (.int (-1)) (pr N1 N3))))<|aH fun F p0 p1 p2 p3=>by
 have:=@ade F N1 (.int (-1)) N3 N2
 try simp only[aa]at *
 grind
def al1:=fb ((.not N4)::N20::PK) (cmp .eql (fn 175 (pr (.int (-1)) (pr N1 N3))) (.int (-1)))<|am fun F p0 p1 p2=>by
 have:=@RR F N1 (.int (-1)) N3 N2
 try simp only[aa]at *
 grind
def rG:List Fa:=[aug,auc,al1]
theorem aHc:aW Try.prog (bu (XQ true)):=sc rG (Rp true) YE ([]) (by kernel_rfl) (by kernel_rfl)
def aga:Nl:=nc aHc YE
def alW:=fb Yo (.not (cmp .lss aK (fn 6 (pr N0 (fn 7 (pr N3 aZ))))))<|cr fun F p0 p1 p2 p3 p4 p5=>by
 try simp only[aa,ae]at *
 obtain⟨a5,ea5,qa5⟩:=ab ((E.I F N0)+(1))
 omega
def awa:=fb nz (cmp .lss (fn 6 (pr N0 (fn 7 (pr N3 aZ)))) N3)<|aR fun F p0 p1 p2 p3 p4=>by
 try simp only[aa,ae]at *
 obtain⟨a5,ea5,qa5⟩:=ab ((E.I F N0)+(1))
 omega
def av1:=fb nz (.not (cmp .lss aZ (.int 0)))<|aR fun F p0 p1 p2 p3 p4=>by
 try simp only[aa,ae]at *
 obtain⟨a5,ea5,qa5⟩:=ab ((E.I F N0)+(1))
 omega
def ayT:=fb nz (.not (cmp .lss N3 aZ))<|aR fun F p0 p1 p2 p3 p4=>by
 try simp only[aa,ae]at *
 obtain⟨a5,ea5,qa5⟩:=ab ((E.I F N0)+(1))
 omega
def aBR:=fb nz (.not (cmp .lss aZ N0))<|aR fun F p0 p1 p2 p3 p4=>by
 try simp only[aa,ae]at *
 obtain⟨a5,ea5,qa5⟩:=ab ((E.I F N0)+(1))
 omega
def aGw:=fb fO Qd<|ax fun F p0 p1=>by
 try simp only[aa]at *
 omega
def azu:=fb fO qy<|ax fun F p0 p1=>by
 try simp only[aa]at *
 omega
def aB8:=fb ([lk,je,l3,mu,M2,(cmp .eql N0 aZ)]) Qd<|cr fun F p0 p1 p2 p3 p4 p5=>by
 try simp only[aa,ae]at *
 obtain⟨a5,ea5,qa5⟩:=ab ((E.I F N0)+(1))
 omega
def alQ:=fb UX qy<|aH fun F p0 p1 p2 p3=>by
 try simp only[aa]at *
 omega
def ajM:=fb ([je,xm]) qy<|ax fun F p0 p1=>by
 try simp only[aa]at *
 omega
def aGI:=fb fO N46<|ax fun F p0 p1=>by
 try simp only[aa]at *
 omega
def aAA:=fb fO KM<|ax fun F p0 p1=>by
 try simp only[aa]at *
 omega
def aku:=fb ([lk,je,l3,mu,(cmp .eql N0 aZ)]) N46<|aR fun F p0 p1 p2 p3 p4=>by
 try simp only[aa,ae]at *
 obtain⟨a5,ea5,qa5⟩:=ab ((E.I F N0)+(1))
 omega
def ayO:=fb ([je]) KM<|aB fun F p0=>by
 try simp only[aa]at *
 omega
def ajt:=fb fO IU<|ax fun F p0 p1=>by
 try simp only[aa]at *
 omega
def aGl:=fb fO N52<|ax fun F p0 p1=>by
 try simp only[aa]at *
 omega
def aj5:=fb (lk::YA) IU<|aH fun F p0 p1 p2 p3=>by
 try simp only[aa]at *
 have:=@dS F N1
 omega
def aBD:=fb nz N52<|aR fun F p0 p1 p2 p3 p4=>by
 try simp only[aa,ae]at *
 obtain⟨a5,ea5,qa5⟩:=ab ((E.I F N0)+(1))
 omega
def aiv:=fb fO VP<|ax fun F p0 p1=>by
 try simp only[aa]at *
 omega
def aFs:=fb fO TP<|ax fun F p0 p1=>by
 try simp only[aa]at *
 omega
def aCf:=fb (je::Se) VP<|am fun F p0 p1 p2=>by
 try simp only[aa]at *
 omega
def aIE:=fa (TP)<|fun F=>by
 try simp only[aa]at *
 omega
def aFH:=fb ([N9,xm]) IU<|ax fun F p0 p1=>by
 try simp only[aa]at *
 have:=@dS F N1
 omega
def aCv:=fb fO Wd<|ax fun F p0 p1=>by
 try simp only[aa]at *
 omega
def aq4:=fb nz Wd<|aR fun F p0 p1 p2 p3 p4=>by
 try simp only[aa,ae]at *
 obtain⟨a5,ea5,qa5⟩:=ab ((E.I F N0)+(1))
 omega
def ayA:=fb fO VI<|ax fun F p0 p1=>by
 try simp only[aa]at *
 omega
def aDk:=fb fO N62<|ax fun F p0 p1=>by
 try simp only[aa]at *
 omega
def aEn:=fb ([lk,je,l3,N9]) VI<|aH fun F p0 p1 p2 p3=>by
 try simp only[aa,ae]at *
 obtain⟨a5,ea5,qa5⟩:=ab ((E.I F N0)+(1))
 omega
def amT:=fb N68 N62<|de fun F p0 p1 p2 p3 p4 p5 p6=>by
 try simp only[aa,ae]at *
 obtain⟨a5,ea5,qa5⟩:=ab ((E.I F N0)+(1))
 omega
def asI:=fb fO TH<|ax fun F p0 p1=>by
 try simp only[aa]at *
 omega
def aFt:=fb fO (cmp .lss N0 aK)<|ax fun F p0 p1=>by
 try simp only[aa]at *
 omega
def aE7:=fb nz TH<|aR fun F p0 p1 p2 p3 p4=>by
 try simp only[aa,ae]at *
 obtain⟨a5,ea5,qa5⟩:=ab ((E.I F N0)+(1))
 omega
def aFK:=fb UX (cmp .lss N0 aK)<|aH fun F p0 p1 p2 p3=>by
 try simp only[aa]at *
 omega
def aEC:=fb fO N71<|ax fun F p0 p1=>by
 try simp only[aa]at *
 omega
def aDr:=fb fO N72<|ax fun F p0 p1=>by
 try simp only[aa]at *
 omega
def aqg:=fb nz N71<|aR fun F p0 p1 p2 p3 p4=>by
 try simp only[aa,ae]at *
 obtain⟨a5,ea5,qa5⟩:=ab ((E.I F N0)+(1))
 omega
def aso:=fb N68 N72<|de fun F p0 p1 p2 p3 p4 p5 p6=>by
 try simp only[aa,ae]at *
 obtain⟨a5,ea5,qa5⟩:=ab ((E.I F N0)+(1))
 omega
def aqZ:=fb fO WR<|ax fun F p0 p1=>by
 try simp only[aa]at *
 omega
def ayv:=fb fO Vu<|ax fun F p0 p1=>by
 try simp only[aa]at *
 omega
def atQ:=fb Yo WR<|cr fun F p0 p1 p2 p3 p4 p5=>by
 try simp only[aa,ae]at *
 obtain⟨a5,ea5,qa5⟩:=ab ((E.I F N0)+(1))
 omega
def al8:=fb Yf Vu<|de fun F p0 p1 p2 p3 p4 p5 p6=>by
 have:=@Jx F (fn 8 (pr N0 (.int 2))) N1
 have:=@Jx F (fn 8 (pr (.int 0) (.int 2))) N1
 try simp only[aa]at *
 omega
def asa:=fb fO N79<|ax fun F p0 p1=>by
 try simp only[aa]at *
 omega
def arC:=fb fO PL<|ax fun F p0 p1=>by
 try simp only[aa]at *
 omega
def ak7:=fb nz N79<|aR fun F p0 p1 p2 p3 p4=>by
 try simp only[aa,ae]at *
 obtain⟨a5,ea5,qa5⟩:=ab ((E.I F N0)+(1))
 omega
def aE0:=fb Yf PL<|de fun F p0 p1 p2 p3 p4 p5 p6=>by
 have hr0:(0<=E.I F _)->(E.I F _=E.I F _*2)->(E.I F _<=0)->(E.I F _<=E.I F _*2+2)->E.B F (fn _ (pr (fn 3 (pr (fn 18 (pr _ (fn 8 (pr N0 (.int 2))))) (fn 18 (pr _ (fn 8 (pr (.int 0) (.int 2))))))) xp))=true:=fun s0 s1 s2 s3=>aEL s0 s1 s2 s3
 try simp only[aa,ae]at *
 obtain⟨a5,ea5,qa5⟩:=ab ((E.I F N0)+(1))
 grind
def aEv:=fb fO WY<|ax fun F p0 p1=>by
 try simp only[aa]at *
 omega
def apN:=fb ([lk,je,l3,mu,N9,(.not (cmp .eql N3 N0))]) WY<|cr fun F p0 p1 p2 p3 p4 p5=>by
 have:=@Jx F (fn 8 (pr N0 (.int 2))) N1
 have:=@az8 F N1 (fn 8 (pr aZ (.int 2))) (fn 8 (pr (fn 6 (pr aZ (fn 7 (pr N3 aZ)))) (.int 2)))
 try simp only[aa,ae]at *
 obtain⟨a7,ea7,qa7⟩:=ab ((E.I F N0)+(1))
 omega
def aAW:=fb fO N84<|ax fun F p0 p1=>by
 try simp only[aa]at *
 omega
def aGU:=fb ([lk,je,l3,mu,N9]) N84<|aR fun F p0 p1 p2 p3 p4=>by
 have hr0:(0<=E.I F _)->(E.I F _=E.I F _*2)->(E.I F _=E.I F _*2+2)->(E.I F _=E.I F _)->E.B F (fn _ (pr (fn 3 (pr (fn 18 (pr _ (fn 8 (pr N0 (.int 2))))) (fn 4 (pr _ (pr (fn 8 (pr aZ (.int 2))) (fn 8 (pr (fn 6 (pr aZ (fn 7 (pr N3 aZ)))) (.int 2)))))))) xp))=true:=fun s0 s1 s2 s3=>aqG s0 s1 s2 s3
 try simp only[aa,ae]at *
 obtain⟨a5,ea5,qa5⟩:=ab ((E.I F N0)+(1))
 grind
def qH:List Fa:=[jM,alW,awa,av1,ayT,aBR,aGw,azu,aB8,alQ,ajM,aGI,aAA,aku,ayO,ajt,aGl,aj5,aBD,aiv,aFs,aCf,aIE,aFH,aCv,aq4,ayA,aDk,aEn,amT,asI,aFt,aE7,aFK,aEC,aDr,aqg,aso,aqZ,ayv,atQ,al8,asa,arC,ak7,aE0,aEv,apN,aAW,aGU]
theorem aqN:aW Try.prog (bu (atE)):=sc qH ([]) aga ([]) (by kernel_rfl) (by kernel_rfl)
def TK:Nl:=nc aqN aga
def RM:=fb ([Iw,Qr]) (cmp .eql (fn 175 (pr cu (pr aZ fp))) (.int (-1)))<|ax fun F p0 p1=>by
 have:=@adg F aZ cu fp
 try simp only[aa]at *
 grind
def ado:=fb (QX::(cmp .lss aJ fp)::Iw::uY::Cq) (.not (cmp .lss o9 (.int 0)))<|aR fun F p0 p1 p2 p3 p4=>by
 try simp only[aa]at *
 grind
def aeX:=fb (N97::Cq) (.not (cmp .lss (var 6) o9))<|ax fun F p0 p1=>by
 try simp only[aa]at *
 grind
def ayp:=fb (Lq::Cq) (.not (cmp .lss (.int 30) (fn 6 (pr o9 (.int 1)))))<|ax fun F p0 p1=>by
 try simp only[aa]at *
 grind
def aE1:=fb aaB (fn 174 (pr (var 13) (pr (fn 23 (pr (fn 1 (pr aZ (fn 6 (pr (fn 8 (pr aJ (.int 2))) (.int 0))))) (fn 10 (.int 0)))) (pr cu FQ))))<|aH fun F p0 p1 p2 p3=>by
 have hr2:(E.I F _=E.I F _)->(0<=E.I F _)->(E.I F _=E.I F fp*2)->E.B F (fn _ (pr _ (pr _ (pr cu _))))=true:=fun s0 s1 s2=>Yh p3 s0 s1 s2
 try simp only[aa]at *
 grind
def sH:List Fa:=[RM,ado,aeX,ayp,aE1]
theorem amX:aW Try.prog (bu (CV false false)):=sc sH ([]) TK ([]) (by kernel_rfl) (by kernel_rfl)
def afm:Nl:=nc amX TK
def adt:=fb (Ac::acl::afj) Lq<|am fun F p0 p1 p2=>by
 try simp only[aa]at *
 omega
def aex:=fb ((.not (cmp .lss (var 9) N2))::afj) (.not (cmp .lss (var 9) (.int 0)))<|ax fun F p0 p1=>by
 try simp only[aa]at *
 grind
def alN:=fb ([Ac,(cmp .lss aJ fp),uY]) PS<|am fun F p0 p1 p2=>by
 try simp only[aa]at *
 grind
def adv:=fb ([acl]) (cmp .eql (fn 6 (pr (fn 0 eX) (.int 1))) (fn 6 (pr N2 (.int 1))))<|aB fun F p0=>by
 try simp only[aa]at *
 grind
def alF:=fb (Ac::Cq) (.not (cmp .lss (.int 30) (fn 6 (pr o9 (fn 6 (pr N2 (.int 1)))))))<|ax fun F p0 p1=>by
 try simp only[aa]at *
 grind
def ao9:=fb aaB (fn 174 (pr (var 13) (pr (fn 3 (pr eX (fn 23 (pr (fn 1 (pr aZ (fn 6 (pr (fn 8 (pr aJ (.int 2))) (.int 0))))) (fn 10 (.int 0)))))) (pr cu FW))))<|aH fun F p0 p1 p2 p3=>by
 have hr2:(E.I F _=E.I F _)->(0<=E.I F _)->(E.I F _=E.I F fp*2)->E.B F (fn _ (pr _ (pr _ (pr cu (pr _ (pr eX _))))))=true:=fun s0 s1 s2=>abJ p3 s0 s1 s2
 try simp only[aa]at *
 grind
def o7:List Fa:=[adt,RM,aex,alN,ado,aeX,adv,alF,ao9]
theorem awH:aW Try.prog (bu (CV true false)):=sc o7 ([]) afm ([]) (by kernel_rfl) (by kernel_rfl)
def ae5:Nl:=nc awH afm
def Ox:=fb ([Mv,Zc]) WL<|ax fun F p0 p1=>by
 have:=@adg F aZ (.int (-1)) fp
 try simp only[aa]at *
 grind
def aa4:=fb (QX::(cmp .lss sI fp)::Mv::Mh::E3) (.not (cmp .lss oD (.int 0)))<|aR fun F p0 p1 p2 p3 p4=>by
 try simp only[aa]at *
 grind
def Yx:=fb (N97::E3) (.not (cmp .lss (var 6) oD))<|ax fun F p0 p1=>by
 try simp only[aa]at *
 grind
def ar5:=fb (Lq::E3) (.not (cmp .lss (.int 30) (fn 6 (pr oD (.int 1)))))<|ax fun F p0 p1=>by
 try simp only[aa]at *
 grind
def aGr:=fb Vz (fn 174 (pr o9 (pr (fn 23 (pr (fn 1 (pr aZ (fn 6 (pr (fn 8 (pr sI (.int 2))) (.int 0))))) (fn 10 (.int 0)))) (pr (.int (-1)) FQ))))<|aH fun F p0 p1 p2 p3=>by
 have hr2:(E.I F _=E.I F _)->(0<=E.I F _)->(E.I F _=E.I F fp*2)->E.B F (fn _ (pr _ (pr _ (pr (.int (-1)) _))))=true:=fun s0 s1 s2=>Yh p3 s0 s1 s2
 try simp only[aa]at *
 grind
def C2:List Fa:=[Ox,aa4,Yx,ar5,aGr]
theorem aHH:aW Try.prog (bu (CV false true)):=sc C2 ([]) ae5 ([]) (by kernel_rfl) (by kernel_rfl)
def Wc:Nl:=nc aHH ae5
def apO:=fb ([Ac,(cmp .lss sI fp),Mh]) PS<|am fun F p0 p1 p2=>by
 try simp only[aa]at *
 grind
def ajl:=fb (Ac::E3) (.not (cmp .lss (.int 30) (fn 6 (pr oD (fn 6 (pr N2 (.int 1)))))))<|ax fun F p0 p1=>by
 try simp only[aa]at *
 grind
def axf:=fb Vz (fn 174 (pr o9 (pr (fn 3 (pr eX (fn 23 (pr (fn 1 (pr aZ (fn 6 (pr (fn 8 (pr sI (.int 2))) (.int 0))))) (fn 10 (.int 0)))))) (pr (.int (-1)) FW))))<|aH fun F p0 p1 p2 p3=>by
 have hr2:(E.I F _=E.I F _)->(0<=E.I F _)->(E.I F _=E.I F fp*2)->E.B F (fn _ (pr _ (pr _ (pr (.int (-1)) (pr _ (pr eX _))))))=true:=fun s0 s1 s2=>abJ p3 s0 s1 s2
 try simp only[aa]at *
 grind
def p46:List Fa:=[adt,Ox,aex,apO,aa4,Yx,adv,ajl,axf]
theorem aDL:aW Try.prog (bu (CV true true)):=sc p46 ([]) Wc ([]) (by kernel_rfl) (by kernel_rfl)
def YM:Nl:=nc aDL Wc
def TB:=fb mv (fn 188 (pr N1 (pr N3 (pr aK (pr (.ar .sub .i64 N0 (.mn aJ N0)) (.int 0))))))<|ax fun F p0 p1=>by
 have:=@bH F N0 (.mn aJ N0)
 have:=(@bh F _ _ _ _).mp p1
 rw[show E.B F _=true↔_ from iff_of_eq (@bh F _ _ _ _)]
 try simp only[aa]at *
 grind
def W9:=fb mv (fn 188 (pr N1 (pr N3 (pr (.ar .sub .i64 aK (.mn aJ aK)) Ju))))<|ax fun F p0 p1=>by
 have:=@bH F aK (.mn aJ aK)
 have:=(@bh F _ _ _ _).mp p1
 rw[show E.B F _=true↔_ from iff_of_eq (@bh F _ _ _ _)]
 try simp only[aa]at *
 grind
def YZ:=fb mv (fn 188 (pr N1 (pr (.ar .sub .i64 N3 (.mn aJ N3)) MP)))<|ax fun F p0 p1=>by
 have:=@bH F N3 (.mn aJ N3)
 have:=(@bh F _ _ _ _).mp p1
 rw[show E.B F _=true↔_ from iff_of_eq (@bh F _ _ _ _)]
 try simp only[aa]at *
 grind
def R6:=fb mv (fn 188 (pr (.ar .sub .i64 N1 (.mn aJ N1)) Je))<|ax fun F p0 p1=>by
 have:=@bH F N1 (.mn aJ N1)
 have:=(@bh F _ _ _ _).mp p1
 rw[show E.B F _=true↔_ from iff_of_eq (@bh F _ _ _ _)]
 try simp only[aa]at *
 grind
def Vm:=fb A3 (.not (cmp .lss (.mn aJ N0) (.int 0)))<|ax fun F p0 p1=>by
 have:=(@bh F _ _ _ _).mp p0
 try simp only[aa]at *
 grind
def Yt:=fb A3 (.not (cmp .lss (.mn aJ aK) (.int 0)))<|ax fun F p0 p1=>by
 have:=(@bh F _ _ _ _).mp p0
 try simp only[aa]at *
 grind
def Xq:=fb A3 (.not (cmp .lss (.mn aJ N3) (.int 0)))<|ax fun F p0 p1=>by
 have:=(@bh F _ _ _ _).mp p0
 try simp only[aa]at *
 grind
def aeq:=fb A3 (.not (cmp .lss (.mn aJ N1) (.int 0)))<|ax fun F p0 p1=>by
 have:=(@bh F _ _ _ _).mp p0
 try simp only[aa]at *
 grind
def W2:=fa ((.not (cmp .lss aJ (.mn aJ N0))))<|fun F=>by
 try simp only[aa]at *
 grind
def Wx:=fa ((.not (cmp .lss aJ (.mn aJ aK))))<|fun F=>by
 try simp only[aa]at *
 grind
def aar:=fa ((.not (cmp .lss aJ (.mn aJ N3))))<|fun F=>by
 try simp only[aa]at *
 grind
def acL:=fa ((.not (cmp .lss aJ (.mn aJ N1))))<|fun F=>by
 try simp only[aa]at *
 grind
def aDI:=fb WV (fn 170 (pr N1 (pr N3 (pr aK (pr (.ar .sub .i64 N0 (.mn aJ N0)) (pr aZ (pr (fn 10 (.int 0)) (pr cu (pr (.mn aJ N0) pE)))))))))<|de fun F p0 p1 p2 p3 p4 p5 p6=>by
 have:=@bH F N0 (.mn aJ N0)
 have:=(@bh F _ _ _ _).mp p6
 have hr2:(E.I F _=3)->(E.I F _=E.I F _-E.I F _)->(0<=E.I F _)->(E.I F _<=E.I F _)->E.B F (fn _ (pr _ (pr _ (pr _ (pr (.ar .sub .i64 N0 (.mn aJ N0)) (pr _ (pr _ (pr cu (pr (.mn aJ N0) (pr N1 (pr N3 (pr aK (pr N0 (pr aZ (pr (fn 10 (.int 0)) _)))))))))))))))=true:=fun s0 s1 s2 s3=>abR s0 s1 s2 s3
 try simp only[aa]at *
 grind
def aIm:=fb (wT::mv) (fn 170 (pr N1 (pr N3 (pr (.ar .sub .i64 aK (.mn aJ aK)) (pr N0 (pr aZ (pr (fn 10 (.int 0)) (pr cu (pr (.mn aJ aK) pE)))))))))<|am fun F p0 p1 p2=>by
 have:=@bH F aK (.mn aJ aK)
 have:=(@bh F _ _ _ _).mp p2
 have hr2:(E.I F _=2)->(E.I F _=E.I F _-E.I F _)->(0<=E.I F _)->(E.I F _<=E.I F _)->E.B F (fn _ (pr _ (pr _ (pr (.ar .sub .i64 aK (.mn aJ aK)) (pr _ (pr _ (pr _ (pr cu (pr (.mn aJ aK) (pr N1 (pr N3 (pr aK (pr N0 (pr aZ (pr (fn 10 (.int 0)) _)))))))))))))))=true:=fun s0 s1 s2 s3=>QK s0 s1 s2 s3
 try simp only[aa]at *
 grind
def anE:=fb (Ai::mv) (fn 170 (pr N1 (pr (.ar .sub .i64 N3 (.mn aJ N3)) (pr aK (pr N0 (pr aZ (pr (fn 10 (.int 0)) (pr cu (pr (.mn aJ N3) pE)))))))))<|am fun F p0 p1 p2=>by
 have:=@bH F N3 (.mn aJ N3)
 have:=(@bh F _ _ _ _).mp p2
 have hr2:(E.I F _=1)->(E.I F _=E.I F _-E.I F _)->(0<=E.I F _)->(E.I F _<=E.I F _)->E.B F (fn _ (pr _ (pr (.ar .sub .i64 N3 (.mn aJ N3)) (pr _ (pr _ (pr _ (pr _ (pr cu (pr (.mn aJ N3) (pr N1 (pr N3 (pr aK (pr N0 (pr aZ (pr (fn 10 (.int 0)) _)))))))))))))))=true:=fun s0 s1 s2 s3=>agO s0 s1 s2 s3
 try simp only[aa]at *
 grind
def aA0:=fb (zx::mv) (fn 170 (pr (.ar .sub .i64 N1 (.mn aJ N1)) (pr N3 (pr aK (pr N0 (pr aZ (pr (fn 10 (.int 0)) (pr cu (pr (.mn aJ N1) pE)))))))))<|am fun F p0 p1 p2=>by
 have:=@bH F N1 (.mn aJ N1)
 have:=(@bh F _ _ _ _).mp p2
 have hr2:(E.I F _=0)->(E.I F _=E.I F _-E.I F _)->(0<=E.I F _)->(E.I F _<=E.I F _)->E.B F (fn _ (pr (.ar .sub .i64 N1 (.mn aJ N1)) (pr _ (pr _ (pr _ (pr _ (pr _ (pr cu (pr (.mn aJ N1) (pr N1 (pr N3 (pr aK (pr N0 (pr aZ (pr (fn 10 (.int 0)) _)))))))))))))))=true:=fun s0 s1 s2 s3=>SY s0 s1 s2 s3
 try simp only[aa]at *
 grind
def ae1:=fb ((.not zx)::(.not Ai)::(.not wT)::rC::Wv) (.imp (cmp .lss (.mn aJ N0) aJ) (fn 185 (pr N1 (pr N3 (pr aK (pr (.ar .sub .i64 N0 (.mn aJ N0)) He))))))<|de fun F p0 p1 p2 p3 p4 p5 p6=>by
 have:=@bH F N0 (.mn aJ N0)
 have hr5:=fun s0 s1=>@aIX F N1 N3 aK (.ar .sub .i64 N0 (.mn aJ N0)) cu s0 s1
 try simp only[aa]at *
 grind
def Xz:=fb ([wT,rC,dV]) (.imp (cmp .lss (.mn aJ aK) aJ) (fn 185 (pr N1 (pr N3 (pr (.ar .sub .i64 aK (.mn aJ aK)) adu)))))<|am fun F p0 p1 p2=>by
 have:=@bH F aK (.mn aJ aK)
 have hr4:=fun s0 s1=>@akJ F N1 N3 (.ar .sub .i64 aK (.mn aJ aK)) N0 cu s0 s1
 try simp only[aa]at *
 grind
def aaO:=fb ([Ai,rC,dV]) (.imp (cmp .lss (.mn aJ N3) aJ) (fn 185 (pr N1 (pr (.ar .sub .i64 N3 (.mn aJ N3)) aer))))<|am fun F p0 p1 p2=>by
 have:=@bH F N3 (.mn aJ N3)
 have hr3:=fun s0 s1=>@aFd F N1 (.ar .sub .i64 N3 (.mn aJ N3)) aK N0 cu s0 s1
 try simp only[aa]at *
 grind
def RN:=fb ([zx,rC,dV]) (.imp (cmp .lss (.mn aJ N1) aJ) (fn 185 (pr (.ar .sub .i64 N1 (.mn aJ N1)) (pr N3 aer))))<|am fun F p0 p1 p2=>by
 have:=@bH F N1 (.mn aJ N1)
 have hr2:=fun s0 s1=>@auM F (.ar .sub .i64 N1 (.mn aJ N1)) N3 aK N0 cu s0 s1
 try simp only[aa]at *
 grind
def aAm:=fb (jg::Lb::ri::yk::SR::abY) (fn 171 BC)<|dw fun F p0 p1 p2 p3 p4 p5 p6 p7=>by
 have hr4:(E.I F _=-1)->(E.I F _=E.I F wP*2)->(E.B F _=true)->(0<=E.I F _)->(E.I F _<=3)->(0<=E.I F _)->(E.I F _<E.I F _)->E.B F (fn _ (pr _ (pr aJ _)))=true:=fun s0 s1 s2 s3 s4 s5 s6=>Gx p7 s0 s1 s2 s3 s4 s5 s6
 try simp only[aa]at *
 grind
def O1:=fb (jg::M5) (.not (cmp .lss (.ar .add .i64 fv (.int 1)) (.int 0)))<|am fun F p0 p1 p2=>by
 try simp only[aa,ae]at *
 obtain⟨a15,ea15,qa15⟩:=ab ((E.I F fv)+(1))
 omega
def aln:=fb ((.not jg)::Od::abB) (fn 170 (pr oN (pr nT (pr nZ (pr nl (pr me (pr (fn 10 (.int 0)) BC)))))))<|am fun F p0 p1 p2=>by
 have hr4:(E.I F _=E.I F _)->E.B F (fn _ (pr _ (pr _ (pr _ (pr _ (pr _ (pr _ (pr _ (pr aJ _)))))))))=true:=fun s0=>gh p2 s0
 try simp only[aa]at *
 grind
def aj7:=fb (jg::Lb::ri::LQ::XC) (fn 171 BC)<|dw fun F p0 p1 p2 p3 p4 p5 p6 p7=>by
 have hr4:(E.I F _=-1)->(E.I F _=E.I F wP*2)->(E.B F _=true)->(0<=E.I F _)->(E.I F _<=3)->(0<=E.I F _)->(E.I F _<E.I F _)->E.B F (fn _ (pr _ (pr aJ _)))=true:=fun s0 s1 s2 s3 s4 s5 s6=>Gx p3 s0 s1 s2 s3 s4 s5 s6
 try simp only[aa]at *
 grind
def aEE:=fb ((.not jg)::LQ::Sd) (fn 170 (pr oN (pr nT (pr nZ (pr nl (pr me (pr yI BC)))))))<|am fun F p0 p1 p2=>by
 have hr4:(E.I F _=E.I F _)->E.B F (fn _ (pr _ (pr _ (pr _ (pr _ (pr _ (pr _ (pr _ (pr aJ _)))))))))=true:=fun s0=>gh p1 s0
 try simp only[aa]at *
 grind
def aeA:=fb ae0 (.not (cmp .lss aJ (.ar .add .i64 fv (.int 1))))<|aH fun F p0 p1 p2 p3=>by
 try simp only[aa,ae]at *
 obtain⟨a15,ea15,qa15⟩:=ab ((E.I F fv)+(1))
 omega
def ajo:=fb (jg::(fn 174 (pr CU (pr BZ (pr cu (pr me Ut)))))::ri::yk::rC::abY) aev<|dw fun F p0 p1 p2 p3 p4 p5 p6 p7=>by
 have:=@aM F fv (.int 1)
 have hr4:(E.B F _=true)->(0<=E.I F _)->(E.I F _<=3)->(0<=E.I F _)->(E.I F _=E.I F _+1)->E.B F (fn _ (pr _ (pr _ (pr _ (pr _ (pr _ (pr _ (pr _ (pr (.ar .add .i64 fv (.int 1)) _)))))))))=true:=fun s0 s1 s2 s3 s4=>MB p7 p1 s0 s1 s2 s3 s4
 try simp only[aa]at *
 grind
def azC:=fb (jg::Rl::ri::LQ::VM) aev<|dw fun F p0 p1 p2 p3 p4 p5 p6 p7=>by
 have:=@aM F fv (.int 1)
 have hr4:(E.B F _=true)->(0<=E.I F _)->(E.I F _<=3)->(0<=E.I F _)->(E.I F _=E.I F _+1)->E.B F (fn _ (pr _ (pr _ (pr _ (pr _ (pr _ (pr _ (pr _ (pr (.ar .add .i64 fv (.int 1)) _)))))))))=true:=fun s0 s1 s2 s3 s4=>MB p3 p1 s0 s1 s2 s3 s4
 try simp only[aa]at *
 grind
def aen:=fb ([jg,ri]) (.imp (cmp .lss (.ar .add .i64 fv (.int 1)) aJ) acQ)<|ax fun F p0 p1=>by
 simp_all
def aeW:=fb (jg::M5) (cmp .lss (fn 7 (pr aJ (.ar .add .i64 fv (.int 1)))) (fn 7 (pr aJ fv)))<|am fun F p0 p1 p2=>by
 try simp only[aa,ae]at *
 obtain⟨a15,ea15,qa15⟩:=ab ((E.I F fv)+(1))
 omega
def YO:=fb ae0 (.not (cmp .lss (fn 7 (pr aJ (.ar .add .i64 fv (.int 1)))) (.int 0)))<|aH fun F p0 p1 p2 p3=>by
 try simp only[aa,ae]at *
 obtain⟨a15,ea15,qa15⟩:=ab ((E.I F fv)+(1))
 omega
def p47:List Fa:=[TB,W9,YZ,R6,Vm,Yt,Xq,aeq,W2,Wx,aar,acL,aDI,aIm,anE,aA0,ae1,Xz,aaO,RN,aAm,O1,aln,aj7,aEE,aeA,ajo,azC,aen,aeW,YO]
theorem aCp:aW Try.prog (bu (ZR false)):=sc p47 (ads false) YM ([]) (by kernel_rfl) (by kernel_rfl)
def agQ:Nl:=nc aCp YM
def asX:=fb WV (fn 170 (pr N1 (pr N3 (pr aK (pr (.ar .sub .i64 N0 (.mn aJ N0)) (pr aZ (pr eX (pr cu (pr (.mn aJ N0) qp)))))))))<|de fun F p0 p1 p2 p3 p4 p5 p6=>by
 have:=@bH F N0 (.mn aJ N0)
 have:=(@bh F _ _ _ _).mp p6
 have hr2:(E.I F _=3)->(E.I F _=E.I F _-E.I F _)->(0<=E.I F _)->(E.I F _<=E.I F _)->E.B F (fn _ (pr _ (pr _ (pr _ (pr (.ar .sub .i64 N0 (.mn aJ N0)) (pr _ (pr _ (pr cu (pr (.mn aJ N0) (pr N1 (pr N3 (pr aK (pr N0 (pr aZ (pr eX _)))))))))))))))=true:=fun s0 s1 s2 s3=>abR s0 s1 s2 s3
 try simp only[aa]at *
 grind
def ap8:=fb (wT::mv) (fn 170 (pr N1 (pr N3 (pr (.ar .sub .i64 aK (.mn aJ aK)) (pr N0 (pr aZ (pr eX (pr cu (pr (.mn aJ aK) qp)))))))))<|am fun F p0 p1 p2=>by
 have:=@bH F aK (.mn aJ aK)
 have:=(@bh F _ _ _ _).mp p2
 have hr2:(E.I F _=2)->(E.I F _=E.I F _-E.I F _)->(0<=E.I F _)->(E.I F _<=E.I F _)->E.B F (fn _ (pr _ (pr _ (pr (.ar .sub .i64 aK (.mn aJ aK)) (pr _ (pr _ (pr _ (pr cu (pr (.mn aJ aK) (pr N1 (pr N3 (pr aK (pr N0 (pr aZ (pr eX _)))))))))))))))=true:=fun s0 s1 s2 s3=>QK s0 s1 s2 s3
 try simp only[aa]at *
 grind
def aCQ:=fb (Ai::mv) (fn 170 (pr N1 (pr (.ar .sub .i64 N3 (.mn aJ N3)) (pr aK (pr N0 (pr aZ (pr eX (pr cu (pr (.mn aJ N3) qp)))))))))<|am fun F p0 p1 p2=>by
 have:=@bH F N3 (.mn aJ N3)
 have:=(@bh F _ _ _ _).mp p2
 have hr2:(E.I F _=1)->(E.I F _=E.I F _-E.I F _)->(0<=E.I F _)->(E.I F _<=E.I F _)->E.B F (fn _ (pr _ (pr (.ar .sub .i64 N3 (.mn aJ N3)) (pr _ (pr _ (pr _ (pr _ (pr cu (pr (.mn aJ N3) (pr N1 (pr N3 (pr aK (pr N0 (pr aZ (pr eX _)))))))))))))))=true:=fun s0 s1 s2 s3=>agO s0 s1 s2 s3
 try simp only[aa]at *
 grind
def av9:=fb (zx::mv) (fn 170 (pr (.ar .sub .i64 N1 (.mn aJ N1)) (pr N3 (pr aK (pr N0 (pr aZ (pr eX (pr cu (pr (.mn aJ N1) qp)))))))))<|am fun F p0 p1 p2=>by
 have:=@bH F N1 (.mn aJ N1)
 have:=(@bh F _ _ _ _).mp p2
 have hr2:(E.I F _=0)->(E.I F _=E.I F _-E.I F _)->(0<=E.I F _)->(E.I F _<=E.I F _)->E.B F (fn _ (pr (.ar .sub .i64 N1 (.mn aJ N1)) (pr _ (pr _ (pr _ (pr _ (pr _ (pr cu (pr (.mn aJ N1) (pr N1 (pr N3 (pr aK (pr N0 (pr aZ (pr eX _)))))))))))))))=true:=fun s0 s1 s2 s3=>SY s0 s1 s2 s3
 try simp only[aa]at *
 grind
def aon:=fb (jg::Lb::ri::Nt::XC) (fn 171 acs)<|dw fun F p0 p1 p2 p3 p4 p5 p6 p7=>by
 have hr4:(E.I F _=-1)->(E.I F _=E.I F wP*2)->(E.B F _=true)->(0<=E.I F _)->(E.I F _<=3)->(0<=E.I F _)->(E.I F _<E.I F _)->E.B F (fn _ (pr _ (pr aJ _)))=true:=fun s0 s1 s2 s3 s4 s5 s6=>Gx p3 s0 s1 s2 s3 s4 s5 s6
 try simp only[aa]at *
 grind
def ak8:=fb ((.not jg)::Nt::Sd) (fn 170 (pr oN (pr nT (pr nZ (pr nl (pr me (pr yI acs)))))))<|am fun F p0 p1 p2=>by
 have hr4:(E.I F _=E.I F _)->E.B F (fn _ (pr _ (pr _ (pr _ (pr _ (pr _ (pr _ (pr _ (pr aJ _)))))))))=true:=fun s0=>gh p1 s0
 try simp only[aa]at *
 grind
def ata:=fb (jg::Rl::ri::Nt::VM) (fn 170 (pr oN (pr nT (pr nZ (pr nl (pr CU (pr BZ (pr cu (pr (.ar .add .i64 fv (.int 1)) qp)))))))))<|dw fun F p0 p1 p2 p3 p4 p5 p6 p7=>by
 have:=@aM F fv (.int 1)
 have hr4:(E.B F _=true)->(0<=E.I F _)->(E.I F _<=3)->(0<=E.I F _)->(E.I F _=E.I F _+1)->E.B F (fn _ (pr _ (pr _ (pr _ (pr _ (pr _ (pr _ (pr _ (pr (.ar .add .i64 fv (.int 1)) _)))))))))=true:=fun s0 s1 s2 s3 s4=>MB p3 p1 s0 s1 s2 s3 s4
 try simp only[aa]at *
 grind
def p48:List Fa:=[TB,W9,YZ,R6,Vm,Yt,Xq,aeq,W2,Wx,aar,acL,asX,ap8,aCQ,av9,ae1,Xz,aaO,RN,aon,O1,ak8,aeA,ata,aen,aeW,YO]
theorem akO:aW Try.prog (bu (ZR true)):=sc p48 (ads true) agQ ([]) (by kernel_rfl) (by kernel_rfl)
def acP:Nl:=nc akO agQ
def aCX:=fb Gs sf<|am fun F p0 p1 p2=>by
 have:=(@bh F _ _ _ _).mp p0
 try simp only[aa]at *
 grind
def aAY:=fb Gs qZ<|am fun F p0 p1 p2=>by
 have:=(@bh F _ _ _ _).mp p0
 try simp only[aa]at *
 grind
def TS:=fb HC Ec<|aH fun F p0 p1 p2 p3=>by
 have:=@bH F N0 (.int 1)
 have:=(@bh F _ _ _ _).mp p0
 rw[show E.B F _=true↔_ from iff_of_eq (@bh F _ _ _ _)]
 try simp only[aa]at *
 grind
def avR:=fb BB sf<|am fun F p0 p1 p2=>by
 have:=(@bh F _ _ _ _).mp p0
 try simp only[aa]at *
 grind
def ay7:=fb BB qZ<|am fun F p0 p1 p2=>by
 have:=(@bh F _ _ _ _).mp p0
 try simp only[aa]at *
 grind
def PR:=fb ([dV,ot,tL]) aaf<|am fun F p0 p1 p2=>by
 have:=@bH F aK (.int 1)
 have:=(@bh F _ _ _ _).mp p0
 rw[show E.B F _=true↔_ from iff_of_eq (@bh F _ _ _ _)]
 try simp only[aa]at *
 grind
def ard:=fb Gk sf<|am fun F p0 p1 p2=>by
 have:=(@bh F _ _ _ _).mp p0
 try simp only[aa]at *
 grind
def aC9:=fb Gk qZ<|am fun F p0 p1 p2=>by
 have:=(@bh F _ _ _ _).mp p0
 try simp only[aa]at *
 grind
def P9:=fb NL Ec<|aH fun F p0 p1 p2 p3=>by
 have:=@bH F N0 (.int 1)
 have:=(@bh F _ _ _ _).mp p0
 rw[show E.B F _=true↔_ from iff_of_eq (@bh F _ _ _ _)]
 try simp only[aa]at *
 grind
def atC:=fb B6 sf<|am fun F p0 p1 p2=>by
 have:=(@bh F _ _ _ _).mp p0
 try simp only[aa]at *
 grind
def aFU:=fb B6 qZ<|am fun F p0 p1 p2=>by
 have:=(@bh F _ _ _ _).mp p0
 try simp only[aa]at *
 grind
def adA:=fb ([dV,ot]) (fn 188 (pr N1 (pr (.ar .sub .i64 N3 (.int 1)) MP)))<|ax fun F p0 p1=>by
 have:=@bH F N3 (.int 1)
 have:=(@bh F _ _ _ _).mp p0
 rw[show E.B F _=true↔_ from iff_of_eq (@bh F _ _ _ _)]
 try simp only[aa]at *
 grind
def abS:=fb LR Ec<|aH fun F p0 p1 p2 p3=>by
 have:=@bH F N0 (.int 1)
 have:=(@bh F _ _ _ _).mp p0
 rw[show E.B F _=true↔_ from iff_of_eq (@bh F _ _ _ _)]
 try simp only[aa]at *
 grind
def aqY:=fb F6 sf<|am fun F p0 p1 p2=>by
 have:=(@bh F _ _ _ _).mp p0
 try simp only[aa]at *
 grind
def aHz:=fb F6 qZ<|am fun F p0 p1 p2=>by
 have:=(@bh F _ _ _ _).mp p0
 try simp only[aa]at *
 grind
def O7:=fb ([dV,oM,vP]) aaf<|am fun F p0 p1 p2=>by
 have:=@bH F aK (.int 1)
 have:=(@bh F _ _ _ _).mp p0
 rw[show E.B F _=true↔_ from iff_of_eq (@bh F _ _ _ _)]
 try simp only[aa]at *
 grind
def aCR:=fb DY sf<|am fun F p0 p1 p2=>by
 have:=(@bh F _ _ _ _).mp p0
 try simp only[aa]at *
 grind
def ayq:=fb DY qZ<|am fun F p0 p1 p2=>by
 have:=(@bh F _ _ _ _).mp p0
 try simp only[aa]at *
 grind
def acb:=fb Np Ec<|aH fun F p0 p1 p2 p3=>by
 have:=@bH F N0 (.int 1)
 have:=(@bh F _ _ _ _).mp p0
 rw[show E.B F _=true↔_ from iff_of_eq (@bh F _ _ _ _)]
 try simp only[aa]at *
 grind
def aAg:=fb agZ sf<|de fun F p0 p1 p2 p3 p4 p5 p6=>by
 have hr1:(E.I F _=-1)->(E.I F _=E.I F fp*2)->(E.I F _<=0)->(E.I F _<=0)->(E.I F _<=0)->(E.I F _<=0)->E.B F (fn _ (pr _ (pr _ (pr N1 (pr N3 (pr aK (pr N0 (pr aZ (pr (fn 10 (.int 0)) _)))))))))=true:=fun s0 s1 s2 s3 s4 s5=>aaR s0 s1 s2 s3 s4 s5
 try simp only[aa]at *
 grind
def ax0:=fb ([dV,oM,yw,AR,yB,(fn 174 (pr oD (pr (var 18) (pr (.int (-1)) FQ))))]) qZ<|cr fun F p0 p1 p2 p3 p4 p5=>by
 have hr1:(E.I F _<=0)->(E.I F _<=0)->(E.I F _<=0)->(E.I F _<=0)->E.B F (fn _ (pr _ (pr _ (pr _ (pr _ (pr _ (pr _ (pr _ (pr _ (pr N1 (pr N3 (pr aK (pr N0 _)))))))))))))=true:=fun s0 s1 s2 s3=>abv p5 s0 s1 s2 s3
 try simp only[aa]at *
 grind
def Vj:=fb ([dV,(.not yB)]) (fn 188 (pr (.ar .sub .i64 N1 (.int 1)) Je))<|ax fun F p0 p1=>by
 have:=@bH F N1 (.int 1)
 have:=(@bh F _ _ _ _).mp p0
 rw[show E.B F _=true↔_ from iff_of_eq (@bh F _ _ _ _)]
 try simp only[aa]at *
 grind
def auD:=fb HC CZ<|aH fun F p0 p1 p2 p3=>by
 have:=@bH F N0 (.int 1)
 have:=(@bh F _ _ _ _).mp p0
 have hr1:(E.I F _=E.I F _-1)->(E.I F _<E.I F _)->(E.I F _<E.I F _)->(E.I F _<E.I F _)->(0<E.I F _)->(E.I F _=1)->E.B F (fn _ (pr _ (pr _ (pr _ (pr (.ar .sub .i64 N0 (.int 1)) (pr _ (pr _ (pr _ (pr (.int 1) (pr N1 (pr N3 (pr aK (pr N0 (pr aZ (pr (fn 10 (.int 0)) _)))))))))))))))=true:=fun s0 s1 s2 s3 s4 s5=>gh (pR s0 s1 s2 s3 s4) s5
 try simp only[aa]at *
 grind
def amx:=fb ([dV,ot,tL,qy]) Zb<|aH fun F p0 p1 p2 p3=>by
 have:=@bH F aK (.int 1)
 have:=(@bh F _ _ _ _).mp p0
 have hr1:(E.I F _=E.I F _-1)->(E.I F _<E.I F _)->(E.I F _<E.I F _)->(E.I F _<=E.I F _)->(0<E.I F _)->(E.I F _=1)->E.B F (fn _ (pr _ (pr _ (pr (.ar .sub .i64 aK (.int 1)) (pr _ (pr _ (pr _ (pr _ (pr (.int 1) (pr N1 (pr N3 (pr aK (pr N0 (pr aZ (pr (fn 10 (.int 0)) _)))))))))))))))=true:=fun s0 s1 s2 s3 s4 s5=>gh (Bh s0 s1 s2 s3 s4) s5
 try simp only[aa]at *
 grind
def at3:=fb NL CZ<|aH fun F p0 p1 p2 p3=>by
 have:=@bH F N0 (.int 1)
 have:=(@bh F _ _ _ _).mp p0
 have hr1:(E.I F _=E.I F _-1)->(E.I F _<E.I F _)->(E.I F _<E.I F _)->(E.I F _<E.I F _)->(0<E.I F _)->(E.I F _=1)->E.B F (fn _ (pr _ (pr _ (pr _ (pr (.ar .sub .i64 N0 (.int 1)) (pr _ (pr _ (pr _ (pr (.int 1) (pr N1 (pr N3 (pr aK (pr N0 (pr aZ (pr (fn 10 (.int 0)) _)))))))))))))))=true:=fun s0 s1 s2 s3 s4 s5=>gh (pR s0 s1 s2 s3 s4) s5
 try simp only[aa]at *
 grind
def ayI:=fb ZW (fn 170 (pr N1 (pr (.ar .sub .i64 N3 (.int 1)) RK)))<|aH fun F p0 p1 p2 p3=>by
 have:=@bH F N3 (.int 1)
 have:=(@bh F _ _ _ _).mp p0
 have hr1:(E.I F _=E.I F _-1)->(E.I F _<E.I F _)->(E.I F _<=E.I F _)->(E.I F _<=E.I F _)->(0<E.I F _)->(E.I F _=1)->E.B F (fn _ (pr _ (pr (.ar .sub .i64 N3 (.int 1)) (pr _ (pr _ (pr _ (pr _ (pr _ (pr (.int 1) (pr N1 (pr N3 (pr aK (pr N0 (pr aZ (pr (fn 10 (.int 0)) _)))))))))))))))=true:=fun s0 s1 s2 s3 s4 s5=>gh (aeQ s0 s1 s2 s3 s4) s5
 try simp only[aa]at *
 grind
def aCd:=fb LR CZ<|aH fun F p0 p1 p2 p3=>by
 have:=@bH F N0 (.int 1)
 have:=(@bh F _ _ _ _).mp p0
 have hr1:(E.I F _=E.I F _-1)->(E.I F _<E.I F _)->(E.I F _<E.I F _)->(E.I F _<E.I F _)->(0<E.I F _)->(E.I F _=1)->E.B F (fn _ (pr _ (pr _ (pr _ (pr (.ar .sub .i64 N0 (.int 1)) (pr _ (pr _ (pr _ (pr (.int 1) (pr N1 (pr N3 (pr aK (pr N0 (pr aZ (pr (fn 10 (.int 0)) _)))))))))))))))=true:=fun s0 s1 s2 s3 s4 s5=>gh (pR s0 s1 s2 s3 s4) s5
 try simp only[aa]at *
 grind
def asc:=fb ([dV,oM,vP,qy]) Zb<|aH fun F p0 p1 p2 p3=>by
 have:=@bH F aK (.int 1)
 have:=(@bh F _ _ _ _).mp p0
 have hr1:(E.I F _=E.I F _-1)->(E.I F _<E.I F _)->(E.I F _<E.I F _)->(E.I F _<=E.I F _)->(0<E.I F _)->(E.I F _=1)->E.B F (fn _ (pr _ (pr _ (pr (.ar .sub .i64 aK (.int 1)) (pr _ (pr _ (pr _ (pr _ (pr (.int 1) (pr N1 (pr N3 (pr aK (pr N0 (pr aZ (pr (fn 10 (.int 0)) _)))))))))))))))=true:=fun s0 s1 s2 s3 s4 s5=>gh (Bh s0 s1 s2 s3 s4) s5
 try simp only[aa]at *
 grind
def aGe:=fb Np CZ<|aH fun F p0 p1 p2 p3=>by
 have:=@bH F N0 (.int 1)
 have:=(@bh F _ _ _ _).mp p0
 have hr1:(E.I F _=E.I F _-1)->(E.I F _<E.I F _)->(E.I F _<E.I F _)->(E.I F _<E.I F _)->(0<E.I F _)->(E.I F _=1)->E.B F (fn _ (pr _ (pr _ (pr _ (pr (.ar .sub .i64 N0 (.int 1)) (pr _ (pr _ (pr _ (pr (.int 1) (pr N1 (pr N3 (pr aK (pr N0 (pr aZ (pr (fn 10 (.int 0)) _)))))))))))))))=true:=fun s0 s1 s2 s3 s4 s5=>gh (pR s0 s1 s2 s3 s4) s5
 try simp only[aa]at *
 grind
def ahR:=fb ae9 (fn 170 (pr (.ar .sub .i64 N1 (.int 1)) (pr N3 RK)))<|aR fun F p0 p1 p2 p3 p4=>by
 have:=@bH F N1 (.int 1)
 have:=(@bh F _ _ _ _).mp p0
 have hr1:(E.I F _=E.I F _-1)->(E.I F _<=E.I F _)->(E.I F _<=E.I F _)->(E.I F _<=E.I F _)->(0<E.I F _)->(E.I F _=1)->E.B F (fn _ (pr (.ar .sub .i64 N1 (.int 1)) (pr _ (pr _ (pr _ (pr _ (pr _ (pr _ (pr (.int 1) (pr N1 (pr N3 (pr aK (pr N0 (pr aZ (pr (fn 10 (.int 0)) _)))))))))))))))=true:=fun s0 s1 s2 s3 s4 s5=>gh (QO s0 s1 s2 s3 s4) s5
 try simp only[aa]at *
 grind
def p49:List Fa:=[aCX,aAY,TS,avR,ay7,PR,ard,aC9,P9,atC,aFU,adA,abS,aqY,aHz,O7,aCR,ayq,acb,aAg,ax0,Vj,auD,amx,at3,ayI,aCd,asc,aGe,ahR]
theorem aBP:aW Try.prog (bu (ae6 false)):=sc p49 ([]) acP ([]) (by kernel_rfl) (by kernel_rfl)
def PT:Nl:=nc aBP acP
def aqn:=fb Gs rV<|am fun F p0 p1 p2=>by
 have:=(@bh F _ _ _ _).mp p0
 try simp only[aa]at *
 grind
def amZ:=fb Gs q9<|am fun F p0 p1 p2=>by
 have:=(@bh F _ _ _ _).mp p0
 try simp only[aa]at *
 grind
def aFI:=fb BB rV<|am fun F p0 p1 p2=>by
 have:=(@bh F _ _ _ _).mp p0
 try simp only[aa]at *
 grind
def aiY:=fb BB q9<|am fun F p0 p1 p2=>by
 have:=(@bh F _ _ _ _).mp p0
 try simp only[aa]at *
 grind
def aEY:=fb Gk rV<|am fun F p0 p1 p2=>by
 have:=(@bh F _ _ _ _).mp p0
 try simp only[aa]at *
 grind
def ali:=fb Gk q9<|am fun F p0 p1 p2=>by
 have:=(@bh F _ _ _ _).mp p0
 try simp only[aa]at *
 grind
def aAc:=fb B6 rV<|am fun F p0 p1 p2=>by
 have:=(@bh F _ _ _ _).mp p0
 try simp only[aa]at *
 grind
def azO:=fb B6 q9<|am fun F p0 p1 p2=>by
 have:=(@bh F _ _ _ _).mp p0
 try simp only[aa]at *
 grind
def az6:=fb F6 rV<|am fun F p0 p1 p2=>by
 have:=(@bh F _ _ _ _).mp p0
 try simp only[aa]at *
 grind
def aEg:=fb F6 q9<|am fun F p0 p1 p2=>by
 have:=(@bh F _ _ _ _).mp p0
 try simp only[aa]at *
 grind
def aq0:=fb DY rV<|am fun F p0 p1 p2=>by
 have:=(@bh F _ _ _ _).mp p0
 try simp only[aa]at *
 grind
def arz:=fb DY q9<|am fun F p0 p1 p2=>by
 have:=(@bh F _ _ _ _).mp p0
 try simp only[aa]at *
 grind
def atq:=fb agZ rV<|de fun F p0 p1 p2 p3 p4 p5 p6=>by
 have hr1:(E.I F _=-1)->(E.I F _=E.I F fp*2)->(E.I F _<=0)->(E.I F _<=0)->(E.I F _<=0)->(E.I F _<=0)->E.B F (fn _ (pr _ (pr _ (pr N1 (pr N3 (pr aK (pr N0 (pr aZ (pr eX _)))))))))=true:=fun s0 s1 s2 s3 s4 s5=>aaR s0 s1 s2 s3 s4 s5
 try simp only[aa]at *
 grind
def ayW:=fb ([dV,oM,yw,AR,yB,(fn 174 (pr oD (pr (var 18) (pr (.int (-1)) FW))))]) q9<|cr fun F p0 p1 p2 p3 p4 p5=>by
 have hr1:(E.I F _<=0)->(E.I F _<=0)->(E.I F _<=0)->(E.I F _<=0)->E.B F (fn _ (pr _ (pr _ (pr _ (pr _ (pr _ (pr _ (pr _ (pr _ (pr N1 (pr N3 (pr aK (pr N0 _)))))))))))))=true:=fun s0 s1 s2 s3=>abv p5 s0 s1 s2 s3
 try simp only[aa]at *
 grind
def anJ:=fb HC Gt<|aH fun F p0 p1 p2 p3=>by
 have:=@bH F N0 (.int 1)
 have:=(@bh F _ _ _ _).mp p0
 have hr1:(E.I F _=E.I F _-1)->(E.I F _<E.I F _)->(E.I F _<E.I F _)->(E.I F _<E.I F _)->(0<E.I F _)->(E.I F _=1)->E.B F (fn _ (pr _ (pr _ (pr _ (pr (.ar .sub .i64 N0 (.int 1)) (pr _ (pr _ (pr _ (pr (.int 1) (pr N1 (pr N3 (pr aK (pr N0 (pr aZ (pr eX _)))))))))))))))=true:=fun s0 s1 s2 s3 s4 s5=>gh (pR s0 s1 s2 s3 s4) s5
 try simp only[aa]at *
 grind
def aFF:=fb ([dV,ot,tL,qy]) adX<|aH fun F p0 p1 p2 p3=>by
 have:=@bH F aK (.int 1)
 have:=(@bh F _ _ _ _).mp p0
 have hr1:(E.I F _=E.I F _-1)->(E.I F _<E.I F _)->(E.I F _<E.I F _)->(E.I F _<=E.I F _)->(0<E.I F _)->(E.I F _=1)->E.B F (fn _ (pr _ (pr _ (pr (.ar .sub .i64 aK (.int 1)) (pr _ (pr _ (pr _ (pr _ (pr (.int 1) (pr N1 (pr N3 (pr aK (pr N0 (pr aZ (pr eX _)))))))))))))))=true:=fun s0 s1 s2 s3 s4 s5=>gh (Bh s0 s1 s2 s3 s4) s5
 try simp only[aa]at *
 grind
def awr:=fb NL Gt<|aH fun F p0 p1 p2 p3=>by
 have:=@bH F N0 (.int 1)
 have:=(@bh F _ _ _ _).mp p0
 have hr1:(E.I F _=E.I F _-1)->(E.I F _<E.I F _)->(E.I F _<E.I F _)->(E.I F _<E.I F _)->(0<E.I F _)->(E.I F _=1)->E.B F (fn _ (pr _ (pr _ (pr _ (pr (.ar .sub .i64 N0 (.int 1)) (pr _ (pr _ (pr _ (pr (.int 1) (pr N1 (pr N3 (pr aK (pr N0 (pr aZ (pr eX _)))))))))))))))=true:=fun s0 s1 s2 s3 s4 s5=>gh (pR s0 s1 s2 s3 s4) s5
 try simp only[aa]at *
 grind
def aDE:=fb ZW (fn 170 (pr N1 (pr (.ar .sub .i64 N3 (.int 1)) ZL)))<|aH fun F p0 p1 p2 p3=>by
 have:=@bH F N3 (.int 1)
 have:=(@bh F _ _ _ _).mp p0
 have hr1:(E.I F _=E.I F _-1)->(E.I F _<E.I F _)->(E.I F _<=E.I F _)->(E.I F _<=E.I F _)->(0<E.I F _)->(E.I F _=1)->E.B F (fn _ (pr _ (pr (.ar .sub .i64 N3 (.int 1)) (pr _ (pr _ (pr _ (pr _ (pr _ (pr (.int 1) (pr N1 (pr N3 (pr aK (pr N0 (pr aZ (pr eX _)))))))))))))))=true:=fun s0 s1 s2 s3 s4 s5=>gh (aeQ s0 s1 s2 s3 s4) s5
 try simp only[aa]at *
 grind
def alx:=fb LR Gt<|aH fun F p0 p1 p2 p3=>by
 have:=@bH F N0 (.int 1)
 have:=(@bh F _ _ _ _).mp p0
 have hr1:(E.I F _=E.I F _-1)->(E.I F _<E.I F _)->(E.I F _<E.I F _)->(E.I F _<E.I F _)->(0<E.I F _)->(E.I F _=1)->E.B F (fn _ (pr _ (pr _ (pr _ (pr (.ar .sub .i64 N0 (.int 1)) (pr _ (pr _ (pr _ (pr (.int 1) (pr N1 (pr N3 (pr aK (pr N0 (pr aZ (pr eX _)))))))))))))))=true:=fun s0 s1 s2 s3 s4 s5=>gh (pR s0 s1 s2 s3 s4) s5
 try simp only[aa]at *
 grind
def aGf:=fb ([dV,oM,vP,qy]) adX<|aH fun F p0 p1 p2 p3=>by
 have:=@bH F aK (.int 1)
 have:=(@bh F _ _ _ _).mp p0
 have hr1:(E.I F _=E.I F _-1)->(E.I F _<E.I F _)->(E.I F _<E.I F _)->(E.I F _<=E.I F _)->(0<E.I F _)->(E.I F _=1)->E.B F (fn _ (pr _ (pr _ (pr (.ar .sub .i64 aK (.int 1)) (pr _ (pr _ (pr _ (pr _ (pr (.int 1) (pr N1 (pr N3 (pr aK (pr N0 (pr aZ (pr eX _)))))))))))))))=true:=fun s0 s1 s2 s3 s4 s5=>gh (Bh s0 s1 s2 s3 s4) s5
 try simp only[aa]at *
 grind
def az3:=fb Np Gt<|aH fun F p0 p1 p2 p3=>by
 have:=@bH F N0 (.int 1)
 have:=(@bh F _ _ _ _).mp p0
 have hr1:(E.I F _=E.I F _-1)->(E.I F _<E.I F _)->(E.I F _<E.I F _)->(E.I F _<E.I F _)->(0<E.I F _)->(E.I F _=1)->E.B F (fn _ (pr _ (pr _ (pr _ (pr (.ar .sub .i64 N0 (.int 1)) (pr _ (pr _ (pr _ (pr (.int 1) (pr N1 (pr N3 (pr aK (pr N0 (pr aZ (pr eX _)))))))))))))))=true:=fun s0 s1 s2 s3 s4 s5=>gh (pR s0 s1 s2 s3 s4) s5
 try simp only[aa]at *
 grind
def alT:=fb ae9 (fn 170 (pr (.ar .sub .i64 N1 (.int 1)) (pr N3 ZL)))<|aR fun F p0 p1 p2 p3 p4=>by
 have:=@bH F N1 (.int 1)
 have:=(@bh F _ _ _ _).mp p0
 have hr1:(E.I F _=E.I F _-1)->(E.I F _<=E.I F _)->(E.I F _<=E.I F _)->(E.I F _<=E.I F _)->(0<E.I F _)->(E.I F _=1)->E.B F (fn _ (pr (.ar .sub .i64 N1 (.int 1)) (pr _ (pr _ (pr _ (pr _ (pr _ (pr _ (pr (.int 1) (pr N1 (pr N3 (pr aK (pr N0 (pr aZ (pr eX _)))))))))))))))=true:=fun s0 s1 s2 s3 s4 s5=>gh (QO s0 s1 s2 s3 s4) s5
 try simp only[aa]at *
 grind
def p50:List Fa:=[aqn,amZ,TS,aFI,aiY,PR,aEY,ali,P9,aAc,azO,adA,abS,az6,aEg,O7,aq0,arz,acb,atq,ayW,Vj,anJ,aFF,awr,aDE,alx,aGf,az3,alT]
theorem aH2:aW Try.prog (bu (ae6 true)):=sc p50 ([]) PT ([]) (by kernel_rfl) (by kernel_rfl)
def WZ:Nl:=nc aH2 PT
end
end Go.Proofs.Ytnnbmcfabojjjaa.payHolds
