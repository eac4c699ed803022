/-
  PayHolds: contracts of functions, part 6.
-/
import Derived.Test.YtnnbmcfabojjjaaRows
import Derived.Test.YtnnbmcfabojjjaaNat
import Derived.WalkKit
import Derived.ProofKit
import Derived.OpenShut
import Derived.ChangeOld
import Derived.Below
import Derived.KernelRfl
import Derived.Lib.SmallJoins
import Derived.Laws.IdiomArrays
import Derived.Test.YtnnbmcfabojjjaaPayHoldsParte
namespace Go.Proofs.Ytnnbmcfabojjjaa.payHolds
open Go.ChangeShapes Go.WideShapes Go.ChangeAt Go.RowKit
open Go.SX
open Go.SX.E (fn pr cmp var)
set_option linter.unusedVariables false
set_option linter.unusedSimpArgs false
set_option maxRecDepth 100000
noncomputable section
abbrev K0:E:=var 11
abbrev K1:E:=var 12
abbrev K2:E:=fn 156 (pr K0 K1)
abbrev K3:E:=var 41
abbrev K4:E:=var 42
abbrev K5:E:=pr K3 K4
abbrev K6:E:=fn 157 K5
abbrev K7:E:=var 44
abbrev K8:E:=cmp .lss K7 K4
abbrev K9:E:=cmp .lss K7 (.int 0)
abbrev K10:E:=.not K9
abbrev EE:=[K10]
abbrev yp:E:=var 14
abbrev K13:E:=cmp .eql yp (fn 9 (pr K1 (.int 2)))
abbrev R9:=[K13]
abbrev gc:E:=var 17
abbrev K16:E:=cmp .eql gc (fn 9 (pr K1 (.int 2)))
abbrev K17:=[K16]
abbrev K18:E:=cmp .lss (.int 3) K4
abbrev K19:E:=.not K18
abbrev K20:=K19::EE
abbrev Rr:=K8::K20
abbrev K22:=K2::R9
abbrev K23:=K2::K17
abbrev K24:E:=.not (cmp .lss K4 K7)
abbrev K25:=K24::EE
abbrev K26:=K19::K25
abbrev PG:=K8::K26
abbrev Xw:=K6::EE
abbrev bk:E:=var 2
abbrev FY:E:=cmp .lss bk (.int 0)
abbrev aA:E:=var 0
abbrev W3:E:=cmp .eql (fn 141 (pr aA bk)) (.int 0)
abbrev K33:E:=pr aA (fn 9 (pr aA (.int 14)))
abbrev Ra:E:=fn 155 K33
abbrev gH:E:=.not FY
abbrev xr:E:=cmp .lss bk (fn 9 (pr aA (.int 14)))
abbrev UV:E:=cmp .eql (fn 142 (pr aA bk)) (.int 0)
abbrev ah:E:=var 1
abbrev iP:E:=fn 117 ah
abbrev ai:E:=var 19
abbrev fo:E:=cmp .lss ai (fn 9 (pr (fn 1 (pr ah (.int 0))) (.int 12)))
abbrev o8:E:=.not (cmp .lss ai (.int 0))
abbrev Iy:=[fo,o8]
abbrev Ns:=iP::Iy
abbrev K45:E:=pr bk ai
abbrev K46:E:=pr ah K45
abbrev K47:E:=pr aA K46
abbrev AH:E:=fn 143 (pr (fn 10 (.int 0)) K47)
abbrev K49:E:=cmp .lss (fn 9 (pr (fn 1 (pr ah (.int 0))) (.int 12))) ai
abbrev NK:E:=.not K49
abbrev xc:E:=pr aA (pr ah (pr bk (fn 9 (pr (fn 1 (pr ah (.int 0))) (.int 12)))))
abbrev K52:E:=pr (fn 10 (.int 0)) xc
abbrev VG:E:=fn 143 K52
abbrev K54:E:=cmp .lss ai gc
abbrev Tz:E:=.not K54
abbrev Sq:=[Tz]
abbrev aU:E:=var 16
abbrev K58:E:=cmp .eql (fn 0 aU) (fn 8 (pr gc (.int 2)))
abbrev mQ:E:=var 18
abbrev K60:E:=pr aU K47
abbrev Zo:E:=fn 143 K60
abbrev Hd:E:=fn 143 (pr aU xc)
abbrev dz:E:=var 27
abbrev gG:E:=cmp .eql dz (fn 142 (pr aA (fn 1 (pr (fn 1 (pr ah (.int 0))) (fn 6 (pr (fn 8 (pr ai (.int 12))) (.int 1)))))))
abbrev n4:E:=var 21
abbrev mH:E:=cmp .eql n4 (fn 141 (pr aA (fn 1 (pr (fn 1 (pr ah (.int 0))) (fn 6 (pr (fn 8 (pr ai (.int 12))) (.int 1)))))))
abbrev i5:E:=cmp .eql (fn 1 (pr (fn 1 (pr ah (.int 0))) (fn 6 (pr (fn 8 (pr ai (.int 12))) (.int 2))))) bk
abbrev jd:E:=.not (fn 1 (pr (fn 1 (pr ah (.int 0))) (fn 6 (pr (fn 8 (pr ai (.int 12))) (.int 9)))))
abbrev l9:E:=cmp .eql n4 (.int 1)
abbrev te:E:=cmp .lss dz (.int 4)
abbrev K71:E:=cmp .lss (.int 1) bk
abbrev Li:E:=.not K71
abbrev sF:=[AH,o8,Li,gH,iP]
abbrev Cm:E:=pr aA (pr ah (pr bk (.ar .add .i64 ai (.int 1))))
abbrev ry:E:=fn 143 (pr (fn 10 (.int 0)) Cm)
abbrev L4:E:=cmp .lss dz (.int 0)
abbrev K77:=o8::Sq
abbrev K78:=fo::K77
abbrev IF:=iP::K78
abbrev yL:E:=cmp .eql bk (.int 0)
abbrev BO:E:=.not yL
abbrev xn:E:=cmp .lss (var 34) (.int 0)
abbrev vZ:E:=.not xn
abbrev AF:E:=.iff vZ (fn 114 (pr (fn 1 (pr ah (.int 22))) (fn 1 (pr (fn 1 (pr ah (.int 0))) (fn 6 (pr (fn 8 (pr ai (.int 12))) (.int 0)))))))
abbrev Al:E:=.iff vZ (fn 114 (pr (fn 1 (pr ah (.int 8))) (fn 1 (pr (fn 1 (pr ah (.int 0))) (fn 6 (pr (fn 8 (pr ai (.int 12))) (.int 0)))))))
abbrev K86:E:=cmp .lss gc (.int 1)
abbrev K87:E:=.not K86
abbrev K88:=[K87]
abbrev K89:=Tz::K88
abbrev K90:=Zo::K89
abbrev K91:=iP::K90
abbrev qE:=o8::Li::gH::K91
abbrev sJ:E:=fn 143 (pr aU Cm)
abbrev K94:=o8::K91
abbrev Ck:E:=.not L4
abbrev K96:E:=pr (fn 23 (pr (fn 1 (pr (fn 1 (pr ah (.int 0))) (fn 6 (pr (fn 8 (pr ai (.int 12))) (.int 0))))) (fn 23 (pr dz (fn 10 (.int 0)))))) Cm
abbrev Ou:E:=fn 143 K96
abbrev K98:E:=pr (fn 3 (pr aU (fn 23 (pr (fn 1 (pr (fn 1 (pr ah (.int 0))) (fn 6 (pr (fn 8 (pr ai (.int 12))) (.int 0))))) (fn 23 (pr dz (fn 10 (.int 0)))))))) Cm
abbrev K99:E:=fn 143 K98
abbrev agt:E:=cmp .eql ah (.int 1)
abbrev aBu:E:=.iff bk (fn 115 aA)
abbrev abV:=[aBu]
abbrev DZ:E:=fn 145 (pr aA ah)
abbrev aaQ:E:=cmp .eql ah (.int 0)
abbrev uw:E:=.bool false
abbrev VV:E:=cmp .lss (.int 20) bk
abbrev hJ:E:=var 3
abbrev eY:E:=var 4
abbrev ft:E:=var 5
abbrev i7:E:=var 6
abbrev aA2:E:=pr eY (pr ft i7)
abbrev axb:E:=pr hJ aA2
abbrev apr:E:=pr bk axb
abbrev apu:E:=fn 146 apr
abbrev Ri:E:=.and DZ apu
abbrev kY:E:=.iff uw Ri
abbrev nR:E:=.not VV
abbrev Pi:E:=cmp .lss hJ (.int 0)
abbrev qo:E:=.not Pi
abbrev UU:E:=cmp .lss (.int 20) hJ
abbrev qK:E:=.not UU
abbrev QF:E:=cmp .lss eY (.int 0)
abbrev tk:E:=.not QF
abbrev S1:E:=cmp .lss (.int 20) eY
abbrev zh:E:=.not S1
abbrev QD:E:=cmp .lss ft (.int 0)
abbrev Gh:E:=.not QD
abbrev EH:E:=cmp .lss (.int 20) ft
abbrev Oa:E:=cmp .lss ah (.int 0)
abbrev QI:E:=cmp .lss (.int 1) ah
abbrev I6:E:=cmp .lss i7 (.int 0)
abbrev YY:E:=cmp .lss (.int 20) i7
abbrev pG:E:=var 7
abbrev aao:E:=pr ah bk
abbrev I2:E:=fn 145 aao
abbrev afE:E:=.iff hJ I2
abbrev RG:E:=pr aA aao
abbrev aqx:E:=pr (fn 10 (.int 0)) RG
abbrev aG2:E:=fn 144 aqx
abbrev ac4:E:=.imp I2 aG2
abbrev NM:=[afE,hJ]
abbrev aBs:E:=cmp .eql (fn 0 eY) (fn 8 (pr ft (.int 2)))
abbrev Zk:=[aBs]
abbrev dp:E:=var 20
abbrev kR:E:=cmp .lss dp n4
abbrev qn:E:=cmp .eql dp (.int 0)
abbrev rx:E:=cmp .eql n4 (fn 9 (pr aU (.int 2)))
abbrev aeZ:E:=cmp .lss dp (fn 9 (pr aU (.int 2)))
abbrev af0:E:=.not (cmp .lss n4 dp)
abbrev aiP:E:=cmp .eql mQ dp
abbrev P6:=[aiP]
abbrev acR:=rx::P6
abbrev Bq:E:=.not (cmp .lss (fn 9 (pr (fn 1 (pr ah (.int 0))) (.int 12))) (fn 9 (pr aU (.int 2))))
abbrev adT:=Bq::acR
abbrev aqC:E:=cmp .lss (.ar .add .i64 dp (.int 1)) (.int 0)
abbrev TM:E:=.not aqC
abbrev ayR:E:=cmp .lss mQ (.int 1)
abbrev OX:E:=.not ayR
abbrev ayb:E:=pr gc (pr aU dp)
abbrev Pf:E:=fn 148 ayb
abbrev aza:E:=cmp .lss n4 (.ar .add .i64 dp (.int 1))
abbrev afr:E:=.not aza
abbrev HW:=OX::P6
abbrev apo:=rx::HW
abbrev am3:=Bq::apo
abbrev apq:=kR::am3
abbrev KX:=iP::apq
abbrev aAG:E:=cmp .lss dp (.int 0)
abbrev abM:E:=.not aAG
abbrev ab3:E:=pr aU (.ar .add .i64 dp (.int 1))
abbrev Qq:=kR::HW
abbrev ac9:E:=cmp .lss (fn 7 (pr n4 (.ar .add .i64 dp (.int 1)))) (fn 7 (pr n4 dp))
abbrev aGk:E:=cmp .lss (fn 7 (pr n4 (.ar .add .i64 dp (.int 1)))) (.int 0)
abbrev agF:E:=.not aGk
abbrev bV:E:=var 8
abbrev aB4:E:=cmp .lss bV (.int 0)
abbrev Ti:E:=.not aB4
abbrev RU:=[Ti]
abbrev aq7:E:=cmp .lss (.int 12) (fn 9 (pr aA (.int 14)))
abbrev T8:E:=.not aq7
abbrev abK:E:=.and T8 Ra
abbrev aac:E:=cmp .lss bV (.int 13)
abbrev Iq:E:=cmp .lss bV (fn 9 (pr aA (.int 14)))
abbrev Rh:E:=.imp T8 abK
abbrev W8:E:=fn 155 (pr aA bV)
abbrev Fr:E:=cmp .lss aU (fn 9 (pr (fn 1 (pr aA (fn 6 (pr (fn 8 (pr bV (.int 14))) (.int 12))))) (.int 2)))
abbrev sR:E:=.not (cmp .lss aU (.int 0))
abbrev akk:E:=cmp .lss (.int 3) (fn 9 (pr (fn 1 (pr aA (fn 6 (pr (fn 8 (pr bV (.int 14))) (.int 12))))) (.int 2)))
abbrev Wn:E:=.not akk
abbrev ahF:=[Wn]
abbrev HF:=sR::ahF
abbrev Uf:=Fr::HF
abbrev aC7:E:=cmp .lss (.ar .add .i64 aU (.int 1)) (.int 0)
abbrev NV:E:=.not aC7
abbrev vT:=aac::RU
abbrev alh:E:=cmp .lss (fn 9 (pr (fn 1 (pr aA (fn 6 (pr (fn 8 (pr bV (.int 14))) (.int 12))))) (.int 2))) aU
abbrev Wf:E:=.not alh
abbrev aH8:=Wf::HF
abbrev XT:=Fr::aH8
abbrev avY:E:=pr (fn 1 (pr aA (fn 6 (pr (fn 8 (pr bV (.int 14))) (.int 12))))) aU
abbrev Rt:E:=fn 157 avY
abbrev CY:E:=cmp .lss (.int 40) (fn 0 (fn 1 (pr aA (.int 6))))
abbrev nq:E:=.imp uw (fn 117 aA)
abbrev Qk:E:=cmp .lss (.int 40) (fn 0 (fn 1 (pr aA (.int 7))))
abbrev af4:E:=cmp .lss (.int 40) (fn 0 (fn 1 (pr aA (.int 8))))
abbrev afS:E:=cmp .lss (.int 40) (fn 0 (fn 1 (pr aA (.int 9))))
abbrev Zf:E:=cmp .lss (.int 40) (fn 0 (fn 1 (pr aA (.int 20))))
abbrev Q3:E:=cmp .lss (.int 40) (fn 0 (fn 1 (pr aA (.int 21))))
abbrev VU:E:=cmp .lss (.int 40) (fn 0 (fn 1 (pr aA (.int 22))))
abbrev Ro:E:=cmp .lss (.int 40) (fn 0 (fn 1 (pr aA (.int 23))))
abbrev LI:E:=fn 159 aA
abbrev aCC:E:=cmp .lss (.int 20) (fn 9 (pr (fn 1 (pr aA (.int 29))) (.int 5)))
abbrev UO:E:=.not aCC
abbrev MW:E:=.and UO (fn 158 (pr (fn 1 (pr aA (.int 29))) (fn 9 (pr (fn 1 (pr aA (.int 29))) (.int 5)))))
abbrev avV:E:=cmp .lss (.int 20) (fn 9 (pr (fn 1 (pr aA (.int 30))) (.int 5)))
abbrev R0:E:=.not avV
abbrev MI:E:=.and R0 (fn 158 (pr (fn 1 (pr aA (.int 30))) (fn 9 (pr (fn 1 (pr aA (.int 30))) (.int 5)))))
abbrev Fy:E:=.imp (.not (cmp .lss bV (.int 1))) MW
abbrev aoB:E:=cmp .lss bV (.int 2)
abbrev Ya:E:=.not aoB
abbrev ND:E:=.imp Ya MI
abbrev yP:E:=cmp .lss aU (fn 9 (pr (fn 1 (pr aA (.int 29))) (.int 5)))
abbrev Ih:=[UO]
abbrev apj:=sR::Ih
abbrev Ul:=yP::apj
abbrev aiT:E:=pr (fn 1 (pr aA (.int 29))) aU
abbrev Qn:E:=fn 158 aiT
abbrev asK:E:=cmp .lss (.ar .add .i64 bV (.int 1)) (.int 1)
abbrev ahw:E:=.not asK
abbrev R4:E:=.imp ahw MW
abbrev Jw:E:=cmp .lss aU (fn 9 (pr (fn 1 (pr aA (.int 30))) (.int 5)))
abbrev abe:=[R0]
abbrev Wa:=sR::abe
abbrev adc:=Jw::Wa
abbrev ako:E:=cmp .lss (.ar .add .i64 bV (.int 1)) (.int 2)
abbrev anK:E:=.not ako
abbrev ac3:E:=.imp anK MI
abbrev alo:E:=pr (fn 1 (pr aA (.int 30))) aU
abbrev UN:E:=fn 158 alo
def bL:List Fa:=[]
theorem akf:aW Try.prog (bu (atc)):=sc bL ([]) adU ([]) (by kernel_rfl) (by kernel_rfl)
def af7:Nl:=nc (AN (kss:=[.down kE]) akf) adU
def bO:List Fa:=[]
theorem azT:aW Try.prog (bu (axP)):=sc bO ([]) af7 ([]) (by kernel_rfl) (by kernel_rfl)
def Rk:Nl:=nc azT af7
def awJ:=fb ([K2]) (.not (cmp .lss (.int 100) (fn 9 (pr K0 (.int 5)))))<|aB fun F p0=>by
 have:=@rA F K0 K1
 try simp only[aa]at *
 grind
def ash:=fb ([K2]) (.not (cmp .lss (.int 100) (fn 9 (pr K1 (.int 2)))))<|aB fun F p0=>by
 have:=@rA F K0 K1
 try simp only[aa]at *
 grind
def ay0:=fb (K6::K8::EE) (.not (cmp .lss (.int 100) (fn 9 (pr (fn 1 (pr K3 (fn 6 (pr (fn 8 (pr K7 (.int 2))) (.int 1))))) (.int 5)))))<|am fun F p0 p1 p2=>by
 have:=@Uz F K7 K4 K3
 try simp only[aa]at *
 grind
def ayo:=fb R9 (.not (cmp .lss yp (.int 0)))<|aB fun F p0=>by
 have:=oq F (pr K1 (.int 2))
 try simp only[aa]at *
 grind
def aCo:=fb K17 (.not (cmp .lss gc (.int 0)))<|aB fun F p0=>by
 have:=oq F (pr K1 (.int 2))
 try simp only[aa]at *
 grind
def aI8:=fb Rr (.not (cmp .lss (.ar .add .i64 K7 (.int 1)) (.int 0)))<|am fun F p0 p1 p2=>by
 try simp only[aa,ae]at *
 obtain⟨a4,ea4,qa4⟩:=ab ((E.I F K7)+(1))
 omega
def azQ:=fb K22 (.not (cmp .lss (.int 3) yp))<|ax fun F p0 p1=>by
 have:=@rA F K0 K1
 try simp only[aa]at *
 grind
def aCV:=fb K23 (.not (cmp .lss (.int 3) gc))<|ax fun F p0 p1=>by
 have:=@rA F K0 K1
 try simp only[aa]at *
 grind
def aDx:=fb PG (.not (cmp .lss K4 (.ar .add .i64 K7 (.int 1))))<|aH fun F p0 p1 p2 p3=>by
 try simp only[aa,ae]at *
 obtain⟨a4,ea4,qa4⟩:=ab ((E.I F K7)+(1))
 omega
def aGh:=fb K22 (fn 157 (pr K1 yp))<|ax fun F p0 p1=>by
 have:=@rA F K0 K1
 have:=@ahg F (fn 9 (pr K1 (.int 2))) yp K1
 try simp only[aa]at *
 grind
def amf:=fb K23 (fn 157 (pr K1 gc))<|ax fun F p0 p1=>by
 have:=@rA F K0 K1
 have:=@ahg F (fn 9 (pr K1 (.int 2))) gc K1
 try simp only[aa]at *
 grind
def axE:=fb (K8::(cmp .eql (fn 9 (pr (fn 1 (pr K3 (fn 6 (pr (fn 8 (pr K7 (.int 2))) (.int 1))))) (.int 5))) (.int 0))::Xw) (fn 157 (pr (fn 2 (pr K3 (pr (fn 6 (pr (fn 8 (pr K7 (.int 2))) (.int 1))) (fn 30 (.int 0))))) K4))<|aH fun F p0 p1 p2 p3=>by
 have:=@TY F K7 K4 (fn 30 (.int 0)) K3
 have:=@EB F (.int 0) 5
 try simp only[aa]at *
 grind
def aDi:=fb (K8::Xw) (fn 157 (pr (fn 2 (pr K3 (pr (fn 6 (pr (fn 8 (pr K7 (.int 2))) (.int 1))) (fn 28 (pr (pr (var 47) (var 45)) (fn 1 (pr K3 (fn 6 (pr (fn 8 (pr K7 (.int 2))) (.int 1)))))))))) K4))<|am fun F p0 p1 p2=>by
 have:=@Uz F K7 K4 K3
 have:=@TY F K7 K4 (fn 28 (pr (pr (var 47) (var 45)) (fn 1 (pr K3 (fn 6 (pr (fn 8 (pr K7 (.int 2))) (.int 1))))))) K3
 have:=@arp F (fn 1 (pr K3 (fn 6 (pr (fn 8 (pr K7 (.int 2))) (.int 1))))) (pr (var 47) (var 45))
 try simp only[aa]at *
 grind
def ahG:=fb Rr (cmp .lss (fn 7 (pr K4 (.ar .add .i64 K7 (.int 1)))) (fn 7 (pr K4 K7)))<|am fun F p0 p1 p2=>by
 try simp only[aa,ae]at *
 obtain⟨a4,ea4,qa4⟩:=ab ((E.I F K7)+(1))
 omega
def aBi:=fb PG (.not (cmp .lss (fn 7 (pr K4 (.ar .add .i64 K7 (.int 1)))) (.int 0)))<|aH fun F p0 p1 p2 p3=>by
 try simp only[aa,ae]at *
 obtain⟨a4,ea4,qa4⟩:=ab ((E.I F K7)+(1))
 omega
def ce:List Fa:=[awJ,ash,ay0,ayo,aCo,aI8,azQ,aCV,aDx,aGh,amf,axE,aDi,ahG,aBi]
theorem aq1:aW Try.prog (bu (ar6)):=sc ce (apI) Rk ([]) (by kernel_rfl) (by kernel_rfl)
def Uy:Nl:=nc (AN (kss:=List.replicate 12 .stay++[.down qX]) aq1) Rk
def axT:=fb ([FY]) W3<|aB fun F p0=>by
 have:=@Gp F bk aA
 try simp only[aa]at *
 grind
def axM:=fb ([Ra,gH,xr]) (fn 156 (pr (fn 1 (pr aA (fn 6 (pr (fn 8 (pr bk (.int 14))) (.int 11))))) (fn 1 (pr aA (fn 6 (pr (fn 8 (pr bk (.int 14))) (.int 12)))))))<|am fun F p0 p1 p2=>by
 have:=@aHT F bk (fn 9 (pr aA (.int 14))) aA
 try simp only[aa]at *
 grind
def aAv:=fb ([gH,(.not xr)]) W3<|ax fun F p0 p1=>by
 have:=@Gp F bk aA
 try simp only[aa]at *
 grind
def aBv:=fb ([FY]) UV<|aB fun F p0=>by
 have:=@Gp F bk aA
 try simp only[aa]at *
 grind
def ay4:=fb ([gH,xr]) (cmp .eql (fn 1 (pr aA (fn 6 (pr (fn 8 (pr bk (.int 14))) (.int 1))))) (fn 141 (pr aA bk)))<|ax fun F p0 p1=>by
 have:=@Vs F bk aA
 try simp only[aa]at *
 grind
def aya:=fb ([gH,(.not xr)]) UV<|ax fun F p0 p1=>by
 have:=@Gp F bk aA
 try simp only[aa]at *
 grind
def asM:=fb ([gH,xr]) (cmp .eql (fn 1 (pr aA (fn 6 (pr (fn 8 (pr bk (.int 14))) (.int 7))))) (fn 142 (pr aA bk)))<|ax fun F p0 p1=>by
 have:=@Vs F bk aA
 try simp only[aa]at *
 grind
def df:List Fa:=[axT,axM,aAv,aBv,ay4,aya,asM]
theorem aIb:aW Try.prog (bu (aGH)):=sc df ([]) Uy ([]) (by kernel_rfl) (by kernel_rfl)
def HO:Nl:=nc (AN (kss:=List.replicate 11 .stay++[.down kE,.down qX]) aIb) Uy
def Ie:=fb ([iP]) (.not (cmp .lss (.int 30) (fn 9 (pr (fn 1 (pr ah (.int 0))) (.int 12)))))<|aB fun F p0=>by
 have:=aC p0
 try simp only[aa,ae]at *
 omega
def ae2:=fa ((fn 143 (pr (fn 10 (.int 0)) (pr aA (pr ah (pr bk (.int 0)))))))<|fun F=>by
 have:=@am9 F (.int 0) bk (.int 0) ah aA
 try simp only[aa,ae]at *
 grind
def aah:=fb ([iP]) (.not (cmp .lss (.int 1000) (fn 0 (fn 1 (pr ah (.int 8))))))<|aB fun F p0=>by
 have:=aC p0
 try simp only[aa,ae]at *
 have:=@dS F (fn 1 (pr ah (.int 8)))
 omega
def WB:=fb ([iP]) (.not (cmp .lss (.int 1000) (fn 0 (fn 1 (pr ah (.int 22))))))<|aB fun F p0=>by
 have:=aC p0
 try simp only[aa,ae]at *
 have:=@dS F (fn 1 (pr ah (.int 22)))
 omega
def TD:=fb Ns (.not (cmp .lss (.ar .add .i64 ai (.int 1)) (.int 0)))<|am fun F p0 p1 p2=>by
 have:=aC p0
 try simp only[aa,ae]at *
 obtain⟨a6,ea6,qa6⟩:=ab ((E.I F ai)+(1))
 try simp only[ea6]at *
 omega
def aem:=fb ([(.not fo),AH,NK]) VG<|am fun F p0 p1 p2=>by
 have:=@agE F (fn 10 (.int 0)) ai bk (fn 9 (pr (fn 1 (pr ah (.int 0))) (.int 12))) ah aA
 try simp only[aa,ae]at *
 grind
def XK:=fb ((.not fo)::NK::Sq) (.not (cmp .lss (fn 9 (pr (fn 1 (pr ah (.int 0))) (.int 12))) gc))<|am fun F p0 p1 p2=>by
 try simp only[aa,ae]at *
 omega
def P4:=fb Iy (.not (cmp .lss (fn 9 (pr (fn 1 (pr ah (.int 0))) (.int 12))) (.ar .add .i64 ai (.int 1))))<|ax fun F p0 p1=>by
 try simp only[aa,ae]at *
 obtain⟨a6,ea6,qa6⟩:=ab ((E.I F ai)+(1))
 try simp only[ea6]at *
 omega
def Xx:=fb ([K58,(.not (cmp .lss mQ gc))]) (.not (cmp .lss mQ (.int 0)))<|ax fun F p0 p1=>by
 try simp only[aa,ae]at *
 have:=@dS F aU
 omega
def RQ:=fb ([(.not fo),NK,Zo]) Hd<|am fun F p0 p1 p2=>by
 have:=@agE F aU ai bk (fn 9 (pr (fn 1 (pr ah (.int 0))) (.int 12))) ah aA
 try simp only[aa,ae]at *
 grind
def Wg:=fb (fo::gG::mH::i5::jd::l9::(.not te)::sF) ry<|lf fun F p0 p1 p2 p3 p4 p5 p6 p7 p8 p9 aj ak=>by
 have:=aC ak
 have:=@aM F ai (.int 1)
 have:=fun hp hv h0 hn=>@d6 F (fn 10 (.int 0)) ai bk (.ar .add .i64 ai (.int 1)) ah (fn 1 (pr ah (.int 8))) aA p7 (fn 1 (pr (fn 1 (pr ah (.int 0))) (fn 6 (pr (fn 8 (pr ai (.int 12))) (.int 0))))) (fn 1 (pr (fn 1 (pr ah (.int 0))) (fn 6 (pr (fn 8 (pr ai (.int 12))) (.int 1))))) (fn 1 (pr (fn 1 (pr ah (.int 0))) (fn 6 (pr (fn 8 (pr ai (.int 12))) (.int 2))))) (fn 1 (pr (fn 1 (pr ah (.int 0))) (fn 6 (pr (fn 8 (pr ai (.int 12))) (.int 9))))) dz rfl rfl rfl rfl (jb hp) h0 hn hv
 have:=fun hp hv h0 hn=>@d6 F (fn 10 (.int 0)) ai bk (.ar .add .i64 ai (.int 1)) ah (fn 1 (pr ah (.int 22))) aA p7 (fn 1 (pr (fn 1 (pr ah (.int 0))) (fn 6 (pr (fn 8 (pr ai (.int 12))) (.int 0))))) (fn 1 (pr (fn 1 (pr ah (.int 0))) (fn 6 (pr (fn 8 (pr ai (.int 12))) (.int 1))))) (fn 1 (pr (fn 1 (pr ah (.int 0))) (fn 6 (pr (fn 8 (pr ai (.int 12))) (.int 2))))) (fn 1 (pr (fn 1 (pr ah (.int 0))) (fn 6 (pr (fn 8 (pr ai (.int 12))) (.int 9))))) dz rfl rfl rfl rfl (jj hp) h0 hn hv
 try simp only[aa,ae]at *
 grind
def afc:=fb (fo::gG::mH::i5::jd::l9::L4::sF) ry<|lf fun F p0 p1 p2 p3 p4 p5 p6 p7 p8 p9 aj ak=>by
 have:=aC ak
 have:=@aM F ai (.int 1)
 have:=fun hp hv h0 hn=>@d6 F (fn 10 (.int 0)) ai bk (.ar .add .i64 ai (.int 1)) ah (fn 1 (pr ah (.int 8))) aA p7 (fn 1 (pr (fn 1 (pr ah (.int 0))) (fn 6 (pr (fn 8 (pr ai (.int 12))) (.int 0))))) (fn 1 (pr (fn 1 (pr ah (.int 0))) (fn 6 (pr (fn 8 (pr ai (.int 12))) (.int 1))))) (fn 1 (pr (fn 1 (pr ah (.int 0))) (fn 6 (pr (fn 8 (pr ai (.int 12))) (.int 2))))) (fn 1 (pr (fn 1 (pr ah (.int 0))) (fn 6 (pr (fn 8 (pr ai (.int 12))) (.int 9))))) dz rfl rfl rfl rfl (jb hp) h0 hn hv
 have:=fun hp hv h0 hn=>@d6 F (fn 10 (.int 0)) ai bk (.ar .add .i64 ai (.int 1)) ah (fn 1 (pr ah (.int 22))) aA p7 (fn 1 (pr (fn 1 (pr ah (.int 0))) (fn 6 (pr (fn 8 (pr ai (.int 12))) (.int 0))))) (fn 1 (pr (fn 1 (pr ah (.int 0))) (fn 6 (pr (fn 8 (pr ai (.int 12))) (.int 1))))) (fn 1 (pr (fn 1 (pr ah (.int 0))) (fn 6 (pr (fn 8 (pr ai (.int 12))) (.int 2))))) (fn 1 (pr (fn 1 (pr ah (.int 0))) (fn 6 (pr (fn 8 (pr ai (.int 12))) (.int 9))))) dz rfl rfl rfl rfl (jj hp) h0 hn hv
 try simp only[aa,ae]at *
 grind
def Tj:=fb (fo::gG::mH::i5::jd::(.not l9)::sF) ry<|iu fun F p0 p1 p2 p3 p4 p5 p6 p7 p8 p9 aj=>by
 have:=aC aj
 have:=@aM F ai (.int 1)
 have:=fun hp hv h0 hn=>@d6 F (fn 10 (.int 0)) ai bk (.ar .add .i64 ai (.int 1)) ah (fn 1 (pr ah (.int 8))) aA p6 (fn 1 (pr (fn 1 (pr ah (.int 0))) (fn 6 (pr (fn 8 (pr ai (.int 12))) (.int 0))))) (fn 1 (pr (fn 1 (pr ah (.int 0))) (fn 6 (pr (fn 8 (pr ai (.int 12))) (.int 1))))) (fn 1 (pr (fn 1 (pr ah (.int 0))) (fn 6 (pr (fn 8 (pr ai (.int 12))) (.int 2))))) (fn 1 (pr (fn 1 (pr ah (.int 0))) (fn 6 (pr (fn 8 (pr ai (.int 12))) (.int 9))))) dz rfl rfl rfl rfl (jb hp) h0 hn hv
 have:=fun hp hv h0 hn=>@d6 F (fn 10 (.int 0)) ai bk (.ar .add .i64 ai (.int 1)) ah (fn 1 (pr ah (.int 22))) aA p6 (fn 1 (pr (fn 1 (pr ah (.int 0))) (fn 6 (pr (fn 8 (pr ai (.int 12))) (.int 0))))) (fn 1 (pr (fn 1 (pr ah (.int 0))) (fn 6 (pr (fn 8 (pr ai (.int 12))) (.int 1))))) (fn 1 (pr (fn 1 (pr ah (.int 0))) (fn 6 (pr (fn 8 (pr ai (.int 12))) (.int 2))))) (fn 1 (pr (fn 1 (pr ah (.int 0))) (fn 6 (pr (fn 8 (pr ai (.int 12))) (.int 9))))) dz rfl rfl rfl rfl (jj hp) h0 hn hv
 try simp only[aa,ae]at *
 grind
def TF:=fb (fo::gG::i5::(fn 1 (pr (fn 1 (pr ah (.int 0))) (fn 6 (pr (fn 8 (pr ai (.int 12))) (.int 9)))))::sF) ry<|eB fun F p0 p1 p2 p3 p4 p5 p6 p7 p8=>by
 have:=aC p8
 have:=@aM F ai (.int 1)
 have:=fun hp hv h0 hn=>@d6 F (fn 10 (.int 0)) ai bk (.ar .add .i64 ai (.int 1)) ah (fn 1 (pr ah (.int 8))) aA p4 (fn 1 (pr (fn 1 (pr ah (.int 0))) (fn 6 (pr (fn 8 (pr ai (.int 12))) (.int 0))))) (fn 1 (pr (fn 1 (pr ah (.int 0))) (fn 6 (pr (fn 8 (pr ai (.int 12))) (.int 1))))) (fn 1 (pr (fn 1 (pr ah (.int 0))) (fn 6 (pr (fn 8 (pr ai (.int 12))) (.int 2))))) (fn 1 (pr (fn 1 (pr ah (.int 0))) (fn 6 (pr (fn 8 (pr ai (.int 12))) (.int 9))))) dz rfl rfl rfl rfl (jb hp) h0 hn hv
 have:=fun hp hv h0 hn=>@d6 F (fn 10 (.int 0)) ai bk (.ar .add .i64 ai (.int 1)) ah (fn 1 (pr ah (.int 22))) aA p4 (fn 1 (pr (fn 1 (pr ah (.int 0))) (fn 6 (pr (fn 8 (pr ai (.int 12))) (.int 0))))) (fn 1 (pr (fn 1 (pr ah (.int 0))) (fn 6 (pr (fn 8 (pr ai (.int 12))) (.int 1))))) (fn 1 (pr (fn 1 (pr ah (.int 0))) (fn 6 (pr (fn 8 (pr ai (.int 12))) (.int 2))))) (fn 1 (pr (fn 1 (pr ah (.int 0))) (fn 6 (pr (fn 8 (pr ai (.int 12))) (.int 9))))) dz rfl rfl rfl rfl (jj hp) h0 hn hv
 try simp only[aa,ae]at *
 grind
def aek:=fb (fo::gG::(.not i5)::sF) ry<|dw fun F p0 p1 p2 p3 p4 p5 p6 p7=>by
 have:=aC p7
 have:=@aM F ai (.int 1)
 have:=fun hp hv h0 hn=>@d6 F (fn 10 (.int 0)) ai bk (.ar .add .i64 ai (.int 1)) ah (fn 1 (pr ah (.int 8))) aA p3 (fn 1 (pr (fn 1 (pr ah (.int 0))) (fn 6 (pr (fn 8 (pr ai (.int 12))) (.int 0))))) (fn 1 (pr (fn 1 (pr ah (.int 0))) (fn 6 (pr (fn 8 (pr ai (.int 12))) (.int 1))))) (fn 1 (pr (fn 1 (pr ah (.int 0))) (fn 6 (pr (fn 8 (pr ai (.int 12))) (.int 2))))) (fn 1 (pr (fn 1 (pr ah (.int 0))) (fn 6 (pr (fn 8 (pr ai (.int 12))) (.int 9))))) dz rfl rfl rfl rfl (jb hp) h0 hn hv
 have:=fun hp hv h0 hn=>@d6 F (fn 10 (.int 0)) ai bk (.ar .add .i64 ai (.int 1)) ah (fn 1 (pr ah (.int 22))) aA p3 (fn 1 (pr (fn 1 (pr ah (.int 0))) (fn 6 (pr (fn 8 (pr ai (.int 12))) (.int 0))))) (fn 1 (pr (fn 1 (pr ah (.int 0))) (fn 6 (pr (fn 8 (pr ai (.int 12))) (.int 1))))) (fn 1 (pr (fn 1 (pr ah (.int 0))) (fn 6 (pr (fn 8 (pr ai (.int 12))) (.int 2))))) (fn 1 (pr (fn 1 (pr ah (.int 0))) (fn 6 (pr (fn 8 (pr ai (.int 12))) (.int 9))))) dz rfl rfl rfl rfl (jj hp) h0 hn hv
 try simp only[aa,ae]at *
 grind
def aeu:=fb IF (.not (cmp .lss (.int 2147483648) (fn 6 (pr gc (.int 1)))))<|aH fun F p0 p1 p2 p3=>by
 have:=aC p0
 try simp only[aa,ae]at *
 omega
def SH:=fb IF (.not (cmp .lss (.ar .add .i64 ai (.int 1)) gc))<|aH fun F p0 p1 p2 p3=>by
 have:=aC p0
 try simp only[aa,ae]at *
 obtain⟨a7,ea7,qa7⟩:=ab ((E.I F ai)+(1))
 try simp only[ea7]at *
 omega
def adL:=fa ((cmp .eql (fn 8 (pr (.int 1) (.int 2))) (.int 2)))<|fun F=>by
 try simp only[aa,ae]at *
 omega
def T3:=fb (fo::gG::jd::BO::AF::xn::sF) ry<|iu fun F p0 p1 p2 p3 p4 p5 p6 p7 p8 p9 aj=>by
 have:=aC aj
 have:=@aM F ai (.int 1)
 have:=fun hp hv h0 hn=>@d6 F (fn 10 (.int 0)) ai bk (.ar .add .i64 ai (.int 1)) ah (fn 1 (pr ah (.int 22))) aA p6 (fn 1 (pr (fn 1 (pr ah (.int 0))) (fn 6 (pr (fn 8 (pr ai (.int 12))) (.int 0))))) (fn 1 (pr (fn 1 (pr ah (.int 0))) (fn 6 (pr (fn 8 (pr ai (.int 12))) (.int 1))))) (fn 1 (pr (fn 1 (pr ah (.int 0))) (fn 6 (pr (fn 8 (pr ai (.int 12))) (.int 2))))) (fn 1 (pr (fn 1 (pr ah (.int 0))) (fn 6 (pr (fn 8 (pr ai (.int 12))) (.int 9))))) dz rfl rfl rfl rfl (jj hp) h0 hn hv
 try simp only[aa,ae]at *
 grind
def aeg:=fb ([fo,gG,jd,yL,Al,xn,AH,o8,iP]) ry<|eB fun F p0 p1 p2 p3 p4 p5 p6 p7 p8=>by
 have:=aC p8
 have:=@aM F ai (.int 1)
 have:=fun hp hv h0 hn=>@d6 F (fn 10 (.int 0)) ai bk (.ar .add .i64 ai (.int 1)) ah (fn 1 (pr ah (.int 8))) aA p6 (fn 1 (pr (fn 1 (pr ah (.int 0))) (fn 6 (pr (fn 8 (pr ai (.int 12))) (.int 0))))) (fn 1 (pr (fn 1 (pr ah (.int 0))) (fn 6 (pr (fn 8 (pr ai (.int 12))) (.int 1))))) (fn 1 (pr (fn 1 (pr ah (.int 0))) (fn 6 (pr (fn 8 (pr ai (.int 12))) (.int 2))))) (fn 1 (pr (fn 1 (pr ah (.int 0))) (fn 6 (pr (fn 8 (pr ai (.int 12))) (.int 9))))) dz rfl rfl rfl rfl (jb hp) h0 hn hv
 try simp only[aa,ae]at *
 grind
def QB:=fb Ns (cmp .lss (fn 7 (pr (fn 9 (pr (fn 1 (pr ah (.int 0))) (.int 12))) (.ar .add .i64 ai (.int 1)))) (fn 7 (pr (fn 9 (pr (fn 1 (pr ah (.int 0))) (.int 12))) ai)))<|am fun F p0 p1 p2=>by
 have:=aC p0
 try simp only[aa,ae]at *
 obtain⟨a6,ea6,qa6⟩:=ab ((E.I F ai)+(1))
 try simp only[ea6]at *
 omega
def ZT:=fb (fo::gG::mH::i5::jd::l9::(.not te)::qE) sJ<|rX fun F p0 p1 p2 p3 p4 p5 p6 p7 p8 p9 aj ak ao aq=>by
 have:=aC aj
 have:=@aM F ai (.int 1)
 have:=fun hp hv h0 hn=>@d6 F aU ai bk (.ar .add .i64 ai (.int 1)) ah (fn 1 (pr ah (.int 8))) aA ak (fn 1 (pr (fn 1 (pr ah (.int 0))) (fn 6 (pr (fn 8 (pr ai (.int 12))) (.int 0))))) (fn 1 (pr (fn 1 (pr ah (.int 0))) (fn 6 (pr (fn 8 (pr ai (.int 12))) (.int 1))))) (fn 1 (pr (fn 1 (pr ah (.int 0))) (fn 6 (pr (fn 8 (pr ai (.int 12))) (.int 2))))) (fn 1 (pr (fn 1 (pr ah (.int 0))) (fn 6 (pr (fn 8 (pr ai (.int 12))) (.int 9))))) dz rfl rfl rfl rfl (jb hp) h0 hn hv
 have:=fun hp hv h0 hn=>@d6 F aU ai bk (.ar .add .i64 ai (.int 1)) ah (fn 1 (pr ah (.int 22))) aA ak (fn 1 (pr (fn 1 (pr ah (.int 0))) (fn 6 (pr (fn 8 (pr ai (.int 12))) (.int 0))))) (fn 1 (pr (fn 1 (pr ah (.int 0))) (fn 6 (pr (fn 8 (pr ai (.int 12))) (.int 1))))) (fn 1 (pr (fn 1 (pr ah (.int 0))) (fn 6 (pr (fn 8 (pr ai (.int 12))) (.int 2))))) (fn 1 (pr (fn 1 (pr ah (.int 0))) (fn 6 (pr (fn 8 (pr ai (.int 12))) (.int 9))))) dz rfl rfl rfl rfl (jj hp) h0 hn hv
 try simp only[aa,ae]at *
 grind
def Ow:=fb (fo::gG::mH::i5::jd::l9::L4::qE) sJ<|rX fun F p0 p1 p2 p3 p4 p5 p6 p7 p8 p9 aj ak ao aq=>by
 have:=aC aj
 have:=@aM F ai (.int 1)
 have:=fun hp hv h0 hn=>@d6 F aU ai bk (.ar .add .i64 ai (.int 1)) ah (fn 1 (pr ah (.int 8))) aA ak (fn 1 (pr (fn 1 (pr ah (.int 0))) (fn 6 (pr (fn 8 (pr ai (.int 12))) (.int 0))))) (fn 1 (pr (fn 1 (pr ah (.int 0))) (fn 6 (pr (fn 8 (pr ai (.int 12))) (.int 1))))) (fn 1 (pr (fn 1 (pr ah (.int 0))) (fn 6 (pr (fn 8 (pr ai (.int 12))) (.int 2))))) (fn 1 (pr (fn 1 (pr ah (.int 0))) (fn 6 (pr (fn 8 (pr ai (.int 12))) (.int 9))))) dz rfl rfl rfl rfl (jb hp) h0 hn hv
 have:=fun hp hv h0 hn=>@d6 F aU ai bk (.ar .add .i64 ai (.int 1)) ah (fn 1 (pr ah (.int 22))) aA ak (fn 1 (pr (fn 1 (pr ah (.int 0))) (fn 6 (pr (fn 8 (pr ai (.int 12))) (.int 0))))) (fn 1 (pr (fn 1 (pr ah (.int 0))) (fn 6 (pr (fn 8 (pr ai (.int 12))) (.int 1))))) (fn 1 (pr (fn 1 (pr ah (.int 0))) (fn 6 (pr (fn 8 (pr ai (.int 12))) (.int 2))))) (fn 1 (pr (fn 1 (pr ah (.int 0))) (fn 6 (pr (fn 8 (pr ai (.int 12))) (.int 9))))) dz rfl rfl rfl rfl (jj hp) h0 hn hv
 try simp only[aa,ae]at *
 grind
def PM:=fb (fo::gG::mH::i5::jd::(.not l9)::qE) sJ<|iN fun F p0 p1 p2 p3 p4 p5 p6 p7 p8 p9 aj ak ao=>by
 have:=aC p9
 have:=@aM F ai (.int 1)
 have:=fun hp hv h0 hn=>@d6 F aU ai bk (.ar .add .i64 ai (.int 1)) ah (fn 1 (pr ah (.int 8))) aA aj (fn 1 (pr (fn 1 (pr ah (.int 0))) (fn 6 (pr (fn 8 (pr ai (.int 12))) (.int 0))))) (fn 1 (pr (fn 1 (pr ah (.int 0))) (fn 6 (pr (fn 8 (pr ai (.int 12))) (.int 1))))) (fn 1 (pr (fn 1 (pr ah (.int 0))) (fn 6 (pr (fn 8 (pr ai (.int 12))) (.int 2))))) (fn 1 (pr (fn 1 (pr ah (.int 0))) (fn 6 (pr (fn 8 (pr ai (.int 12))) (.int 9))))) dz rfl rfl rfl rfl (jb hp) h0 hn hv
 have:=fun hp hv h0 hn=>@d6 F aU ai bk (.ar .add .i64 ai (.int 1)) ah (fn 1 (pr ah (.int 22))) aA aj (fn 1 (pr (fn 1 (pr ah (.int 0))) (fn 6 (pr (fn 8 (pr ai (.int 12))) (.int 0))))) (fn 1 (pr (fn 1 (pr ah (.int 0))) (fn 6 (pr (fn 8 (pr ai (.int 12))) (.int 1))))) (fn 1 (pr (fn 1 (pr ah (.int 0))) (fn 6 (pr (fn 8 (pr ai (.int 12))) (.int 2))))) (fn 1 (pr (fn 1 (pr ah (.int 0))) (fn 6 (pr (fn 8 (pr ai (.int 12))) (.int 9))))) dz rfl rfl rfl rfl (jj hp) h0 hn hv
 try simp only[aa,ae]at *
 grind
def Sn:=fb (fo::gG::i5::(fn 1 (pr (fn 1 (pr ah (.int 0))) (fn 6 (pr (fn 8 (pr ai (.int 12))) (.int 9)))))::qE) sJ<|iu fun F p0 p1 p2 p3 p4 p5 p6 p7 p8 p9 aj=>by
 have:=aC p7
 have:=@aM F ai (.int 1)
 have:=fun hp hv h0 hn=>@d6 F aU ai bk (.ar .add .i64 ai (.int 1)) ah (fn 1 (pr ah (.int 8))) aA p8 (fn 1 (pr (fn 1 (pr ah (.int 0))) (fn 6 (pr (fn 8 (pr ai (.int 12))) (.int 0))))) (fn 1 (pr (fn 1 (pr ah (.int 0))) (fn 6 (pr (fn 8 (pr ai (.int 12))) (.int 1))))) (fn 1 (pr (fn 1 (pr ah (.int 0))) (fn 6 (pr (fn 8 (pr ai (.int 12))) (.int 2))))) (fn 1 (pr (fn 1 (pr ah (.int 0))) (fn 6 (pr (fn 8 (pr ai (.int 12))) (.int 9))))) dz rfl rfl rfl rfl (jb hp) h0 hn hv
 have:=fun hp hv h0 hn=>@d6 F aU ai bk (.ar .add .i64 ai (.int 1)) ah (fn 1 (pr ah (.int 22))) aA p8 (fn 1 (pr (fn 1 (pr ah (.int 0))) (fn 6 (pr (fn 8 (pr ai (.int 12))) (.int 0))))) (fn 1 (pr (fn 1 (pr ah (.int 0))) (fn 6 (pr (fn 8 (pr ai (.int 12))) (.int 1))))) (fn 1 (pr (fn 1 (pr ah (.int 0))) (fn 6 (pr (fn 8 (pr ai (.int 12))) (.int 2))))) (fn 1 (pr (fn 1 (pr ah (.int 0))) (fn 6 (pr (fn 8 (pr ai (.int 12))) (.int 9))))) dz rfl rfl rfl rfl (jj hp) h0 hn hv
 try simp only[aa,ae]at *
 grind
def Q9:=fb (fo::gG::(.not i5)::qE) sJ<|iD fun F p0 p1 p2 p3 p4 p5 p6 p7 p8 p9=>by
 have:=aC p6
 have:=@aM F ai (.int 1)
 have:=fun hp hv h0 hn=>@d6 F aU ai bk (.ar .add .i64 ai (.int 1)) ah (fn 1 (pr ah (.int 8))) aA p7 (fn 1 (pr (fn 1 (pr ah (.int 0))) (fn 6 (pr (fn 8 (pr ai (.int 12))) (.int 0))))) (fn 1 (pr (fn 1 (pr ah (.int 0))) (fn 6 (pr (fn 8 (pr ai (.int 12))) (.int 1))))) (fn 1 (pr (fn 1 (pr ah (.int 0))) (fn 6 (pr (fn 8 (pr ai (.int 12))) (.int 2))))) (fn 1 (pr (fn 1 (pr ah (.int 0))) (fn 6 (pr (fn 8 (pr ai (.int 12))) (.int 9))))) dz rfl rfl rfl rfl (jb hp) h0 hn hv
 have:=fun hp hv h0 hn=>@d6 F aU ai bk (.ar .add .i64 ai (.int 1)) ah (fn 1 (pr ah (.int 22))) aA p7 (fn 1 (pr (fn 1 (pr ah (.int 0))) (fn 6 (pr (fn 8 (pr ai (.int 12))) (.int 0))))) (fn 1 (pr (fn 1 (pr ah (.int 0))) (fn 6 (pr (fn 8 (pr ai (.int 12))) (.int 1))))) (fn 1 (pr (fn 1 (pr ah (.int 0))) (fn 6 (pr (fn 8 (pr ai (.int 12))) (.int 2))))) (fn 1 (pr (fn 1 (pr ah (.int 0))) (fn 6 (pr (fn 8 (pr ai (.int 12))) (.int 9))))) dz rfl rfl rfl rfl (jj hp) h0 hn hv
 try simp only[aa,ae]at *
 grind
def afb:=fb Ns (.not (cmp .lss (.ar .add .i64 ai (.int 1)) (.int 1)))<|am fun F p0 p1 p2=>by
 have:=aC p0
 try simp only[aa,ae]at *
 obtain⟨a7,ea7,qa7⟩:=ab ((E.I F ai)+(1))
 try simp only[ea7]at *
 omega
def WK:=fb Iy (.not (cmp .lss (fn 7 (pr (fn 9 (pr (fn 1 (pr ah (.int 0))) (.int 12))) (.ar .add .i64 ai (.int 1)))) (.int 0)))<|ax fun F p0 p1=>by
 try simp only[aa,ae]at *
 obtain⟨a6,ea6,qa6⟩:=ab ((E.I F ai)+(1))
 try simp only[ea6]at *
 omega
def Wb:=fb (fo::gG::jd::BO::AF::xn::qE) sJ<|iN fun F p0 p1 p2 p3 p4 p5 p6 p7 p8 p9 aj ak ao=>by
 have:=aC p9
 have:=@aM F ai (.int 1)
 have:=fun hp hv h0 hn=>@d6 F aU ai bk (.ar .add .i64 ai (.int 1)) ah (fn 1 (pr ah (.int 22))) aA aj (fn 1 (pr (fn 1 (pr ah (.int 0))) (fn 6 (pr (fn 8 (pr ai (.int 12))) (.int 0))))) (fn 1 (pr (fn 1 (pr ah (.int 0))) (fn 6 (pr (fn 8 (pr ai (.int 12))) (.int 1))))) (fn 1 (pr (fn 1 (pr ah (.int 0))) (fn 6 (pr (fn 8 (pr ai (.int 12))) (.int 2))))) (fn 1 (pr (fn 1 (pr ah (.int 0))) (fn 6 (pr (fn 8 (pr ai (.int 12))) (.int 9))))) dz rfl rfl rfl rfl (jj hp) h0 hn hv
 try simp only[aa,ae]at *
 grind
def XZ:=fb (fo::gG::jd::yL::Al::xn::K94) sJ<|iu fun F p0 p1 p2 p3 p4 p5 p6 p7 p8 p9 aj=>by
 have:=aC p7
 have:=@aM F ai (.int 1)
 have:=fun hp hv h0 hn=>@d6 F aU ai bk (.ar .add .i64 ai (.int 1)) ah (fn 1 (pr ah (.int 8))) aA p8 (fn 1 (pr (fn 1 (pr ah (.int 0))) (fn 6 (pr (fn 8 (pr ai (.int 12))) (.int 0))))) (fn 1 (pr (fn 1 (pr ah (.int 0))) (fn 6 (pr (fn 8 (pr ai (.int 12))) (.int 1))))) (fn 1 (pr (fn 1 (pr ah (.int 0))) (fn 6 (pr (fn 8 (pr ai (.int 12))) (.int 2))))) (fn 1 (pr (fn 1 (pr ah (.int 0))) (fn 6 (pr (fn 8 (pr ai (.int 12))) (.int 9))))) dz rfl rfl rfl rfl (jb hp) h0 hn hv
 try simp only[aa,ae]at *
 grind
def acg:=fb (fo::gG::mH::i5::jd::l9::Ck::te::BO::AF::vZ::sF) Ou<|nO fun F p0 p1 p2 p3 p4 p5 p6 p7 p8 p9 aj ak ao aq av az=>by
 have:=aC az
 have:=@aM F ai (.int 1)
 have hnil11:ay F (fn 10 (.int 0))=[]:=rfl
 have:=fun hp hv h0 hn=>@d6 F (fn 10 (.int 0)) ai bk (.ar .add .i64 ai (.int 1)) ah (fn 1 (pr ah (.int 22))) aA ak (fn 1 (pr (fn 1 (pr ah (.int 0))) (fn 6 (pr (fn 8 (pr ai (.int 12))) (.int 0))))) (fn 1 (pr (fn 1 (pr ah (.int 0))) (fn 6 (pr (fn 8 (pr ai (.int 12))) (.int 1))))) (fn 1 (pr (fn 1 (pr ah (.int 0))) (fn 6 (pr (fn 8 (pr ai (.int 12))) (.int 2))))) (fn 1 (pr (fn 1 (pr ah (.int 0))) (fn 6 (pr (fn 8 (pr ai (.int 12))) (.int 9))))) dz rfl rfl rfl rfl (jj hp) h0 hn hv
 try simp only[aa,ae]at *
 grind
def agU:=fb ([fo,gG,mH,i5,jd,l9,Ck,te,yL,Al,vZ,AH,o8,iP]) Ou<|rX fun F p0 p1 p2 p3 p4 p5 p6 p7 p8 p9 aj ak ao aq=>by
 have:=aC aq
 have:=@aM F ai (.int 1)
 have hnil11:ay F (fn 10 (.int 0))=[]:=rfl
 have:=fun hp hv h0 hn=>@d6 F (fn 10 (.int 0)) ai bk (.ar .add .i64 ai (.int 1)) ah (fn 1 (pr ah (.int 8))) aA ak (fn 1 (pr (fn 1 (pr ah (.int 0))) (fn 6 (pr (fn 8 (pr ai (.int 12))) (.int 0))))) (fn 1 (pr (fn 1 (pr ah (.int 0))) (fn 6 (pr (fn 8 (pr ai (.int 12))) (.int 1))))) (fn 1 (pr (fn 1 (pr ah (.int 0))) (fn 6 (pr (fn 8 (pr ai (.int 12))) (.int 2))))) (fn 1 (pr (fn 1 (pr ah (.int 0))) (fn 6 (pr (fn 8 (pr ai (.int 12))) (.int 9))))) dz rfl rfl rfl rfl (jb hp) h0 hn hv
 try simp only[aa,ae]at *
 grind
def agW:=fb ([K58]) (cmp .eql (fn 6 (pr (fn 0 aU) (.int 2))) (fn 8 (pr (fn 6 (pr gc (.int 1))) (.int 2))))<|aB fun F p0=>by
 try simp only[aa,ae]at *
 omega
def aaF:=fb IF (.not (cmp .lss (.ar .add .i64 ai (.int 1)) (fn 6 (pr gc (.int 1)))))<|aH fun F p0 p1 p2 p3=>by
 have:=aC p0
 try simp only[aa,ae]at *
 obtain⟨a8,ea8,qa8⟩:=ab ((E.I F ai)+(1))
 try simp only[ea8]at *
 omega
def TE:=fb (fo::gG::mH::i5::jd::l9::Ck::te::BO::AF::vZ::qE) K99<|yR fun F p0 p1 p2 p3 p4 p5 p6 p7 p8 p9 aj ak ao aq av az aG ap=>by
 have:=aC av
 have:=@aM F ai (.int 1)
 have:=fun hp hv h0 hn=>@d6 F aU ai bk (.ar .add .i64 ai (.int 1)) ah (fn 1 (pr ah (.int 22))) aA az (fn 1 (pr (fn 1 (pr ah (.int 0))) (fn 6 (pr (fn 8 (pr ai (.int 12))) (.int 0))))) (fn 1 (pr (fn 1 (pr ah (.int 0))) (fn 6 (pr (fn 8 (pr ai (.int 12))) (.int 1))))) (fn 1 (pr (fn 1 (pr ah (.int 0))) (fn 6 (pr (fn 8 (pr ai (.int 12))) (.int 2))))) (fn 1 (pr (fn 1 (pr ah (.int 0))) (fn 6 (pr (fn 8 (pr ai (.int 12))) (.int 9))))) dz rfl rfl rfl rfl (jj hp) h0 hn hv
 try simp only[aa,ae]at *
 grind
def Pg:=fb (fo::gG::mH::i5::jd::l9::Ck::te::yL::Al::vZ::K94) K99<|nO fun F p0 p1 p2 p3 p4 p5 p6 p7 p8 p9 aj ak ao aq av az=>by
 have:=aC ao
 have:=@aM F ai (.int 1)
 have:=fun hp hv h0 hn=>@d6 F aU ai bk (.ar .add .i64 ai (.int 1)) ah (fn 1 (pr ah (.int 8))) aA aq (fn 1 (pr (fn 1 (pr ah (.int 0))) (fn 6 (pr (fn 8 (pr ai (.int 12))) (.int 0))))) (fn 1 (pr (fn 1 (pr ah (.int 0))) (fn 6 (pr (fn 8 (pr ai (.int 12))) (.int 1))))) (fn 1 (pr (fn 1 (pr ah (.int 0))) (fn 6 (pr (fn 8 (pr ai (.int 12))) (.int 2))))) (fn 1 (pr (fn 1 (pr ah (.int 0))) (fn 6 (pr (fn 8 (pr ai (.int 12))) (.int 9))))) dz rfl rfl rfl rfl (jb hp) h0 hn hv
 try simp only[aa,ae]at *
 grind
def eJ:List Fa:=[Ie,ae2,aah,WB,TD,aem,XK,P4,Xx,RQ,Wg,afc,Tj,TF,aek,aeu,SH,adL,T3,aeg,QB,ZT,Ow,PM,Sn,Q9,afb,WK,Wb,XZ,acg,agU,agW,aaF,TE,Pg]
theorem aB7:aW Try.prog (bu (al0)):=sc eJ (Qf) HO ([]) (by kernel_rfl) (by kernel_rfl)
def ZS:Nl:=nc (AN (kss:=[.down kT]) aB7) HO
def awZ:=fb (agt::abV) (.iff bk DZ)<|ax fun F p0 p1=>by
 have:=@dN F ah aA
 have:=@YW F aA
 try simp only[aa]at *
 grind
def aBG:=fb ([(.not aaQ),(.not agt)]) (.iff uw DZ)<|ax fun F p0 p1=>by
 have:=@dN F ah aA
 try simp only[aa]at *
 grind
def akd:=fb (aaQ::abV) (.iff bk DZ)<|ax fun F p0 p1=>by
 have:=@dN F ah aA
 have:=@YW F aA
 try simp only[aa]at *
 grind
def fC:List Fa:=[awZ,aBG,akd]
theorem ajO:aW Try.prog (bu (atX)):=sc fC ([]) ZS ([]) (by kernel_rfl) (by kernel_rfl)
def ahb:Nl:=nc ajO ZS
def aid:=fb ([gH,VV]) kY<|ax fun F p0 p1=>by
 have:=@ch F bk hJ eY ft i7
 try simp only[aa]at *
 grind
def aGT:=fb ([gH,nR,qo,UU]) kY<|aH fun F p0 p1 p2 p3=>by
 have:=@ch F bk hJ eY ft i7
 try simp only[aa]at *
 grind
def aCx:=fb ([gH,nR,qo,qK,tk,S1]) kY<|cr fun F p0 p1 p2 p3 p4 p5=>by
 have:=@ch F bk hJ eY ft i7
 try simp only[aa]at *
 grind
def atp:=fb ([gH,nR,qo,qK,tk,zh,Gh,EH]) kY<|dw fun F p0 p1 p2 p3 p4 p5 p6 p7=>by
 have:=@ch F bk hJ eY ft i7
 try simp only[aa]at *
 grind
def aFk:=fb ([gH,nR,qo,qK,tk,zh,Gh,(.not EH),(.not Oa),(.not QI),(.not I6),(.not YY),(.iff pG (fn 130 aA))]) (.iff pG Ri)<|iN fun F p0 p1 p2 p3 p4 p5 p6 p7 p8 p9 aj ak ao=>by
 have:=@dN F ah aA
 have:=@ch F bk hJ eY ft i7
 try simp only[aa]at *
 grind
def axu:=fb ([gH,nR,qo,qK,tk,zh,Gh,(.not EH),(.not I6),YY]) kY<|iD fun F p0 p1 p2 p3 p4 p5 p6 p7 p8 p9=>by
 have:=@ch F bk hJ eY ft i7
 try simp only[aa]at *
 grind
def ajN:=fb ([gH,nR,qo,qK,tk,zh,Gh,(.not EH),I6]) kY<|eB fun F p0 p1 p2 p3 p4 p5 p6 p7 p8=>by
 have:=@ch F bk hJ eY ft i7
 try simp only[aa]at *
 grind
def aCu:=fb ([(.not Oa),QI]) kY<|ax fun F p0 p1=>by
 have:=@dN F ah aA
 try simp only[aa]at *
 grind
def aHR:=fb ([Oa]) kY<|aB fun F p0=>by
 have:=@dN F ah aA
 try simp only[aa]at *
 grind
def awb:=fb ([gH,nR,qo,qK,tk,zh,QD]) kY<|de fun F p0 p1 p2 p3 p4 p5 p6=>by
 have:=@ch F bk hJ eY ft i7
 try simp only[aa]at *
 grind
def amK:=fb ([gH,nR,qo,qK,QF]) kY<|aR fun F p0 p1 p2 p3 p4=>by
 have:=@ch F bk hJ eY ft i7
 try simp only[aa]at *
 grind
def awx:=fb ([gH,nR,Pi]) kY<|am fun F p0 p1 p2=>by
 have:=@ch F bk hJ eY ft i7
 try simp only[aa]at *
 grind
def alw:=fb ([FY]) kY<|aB fun F p0=>by
 have:=@ch F bk hJ eY ft i7
 try simp only[aa]at *
 grind
def gp:List Fa:=[aid,aGT,aCx,atp,aFk,axu,ajN,aCu,aHR,awb,amK,awx,alw]
theorem aA1:aW Try.prog (bu (aGY)):=sc gp ([]) ahb ([]) (by kernel_rfl) (by kernel_rfl)
def agh:Nl:=nc aA1 ahb
def avk:=fb ([afE,(.not hJ)]) ac4<|ax fun F p0 p1=>by
 try simp only[aa,ae]at *
 grind
def azK:=fb NM gH<|ax fun F p0 p1=>by
 have:=@dN F bk ah
 try simp only[aa,ae]at *
 grind
def aII:=fb NM Li<|ax fun F p0 p1=>by
 have:=@dN F bk ah
 try simp only[aa,ae]at *
 grind
def ao2:=fb NM I2<|ax fun F p0 p1=>by
 try simp only[aa,ae]at *
 grind
def ax4:=fb ([(fn 143 (pr eY xc))]) (fn 143 (pr (fn 28 (pr (pr pG ft) eY)) xc))<|aB fun F p0=>by
 have:=@aq5 F eY (pr pG ft) bk (fn 9 (pr (fn 1 (pr ah (.int 0))) (.int 12))) ah aA
 try simp only[aa,ae]at *
 grind
def aAs:=fb ([VG]) (fn 143 (pr (fn 30 (.int 0)) xc))<|aB fun F p0=>by
 have:=@auU F (.int 0) (.int 0) bk (fn 9 (pr (fn 1 (pr ah (.int 0))) (.int 12))) ah aA
 try simp only[aa,ae]at *
 grind
def aoh:=fb Zk (cmp .eql ft (fn 9 (pr (fn 28 (pr (pr pG ft) eY)) (.int 2))))<|aB fun F p0=>by
 have:=@Sb F eY (pr pG ft)
 have:=@Xl F eY
 try simp only[aa,ae]at *
 grind
def aiW:=fa ((cmp .eql (fn 9 (pr (fn 30 (.int 0)) (.int 2))) (.int 0)))<|fun F=>by
 have:=@EB F (.int 0) 2
 try simp only[aa,ae]at *
 grind
def apP:=fb ((.not (cmp .lss (fn 9 (pr (fn 1 (pr ah (.int 0))) (.int 12))) ft))::Zk) (.not (cmp .lss (fn 9 (pr (fn 1 (pr ah (.int 0))) (.int 12))) (fn 9 (pr (fn 28 (pr (pr pG ft) eY)) (.int 2)))))<|ax fun F p0 p1=>by
 have:=@Sb F eY (pr pG ft)
 have:=@Xl F eY
 try simp only[aa,ae]at *
 grind
def ar4:=fb ([iP]) (.not (cmp .lss (fn 9 (pr (fn 1 (pr ah (.int 0))) (.int 12))) (fn 9 (pr (fn 30 (.int 0)) (.int 2)))))<|aB fun F p0=>by
 have:=aC p0
 have:=@EB F (.int 0) 2
 try simp only[aa,ae]at *
 grind
def ajx:=fb ([kR,qn,rx]) aeZ<|am fun F p0 p1 p2=>by
 try simp only[aa,ae]at *
 omega
def aFQ:=fb ([(.not kR),qn,af0,rx,Hd]) ac4<|aR fun F p0 p1 p2 p3 p4=>by
 have:=@aBj F (.int 0) _ _ _ _ p4
 try simp only[aa,ae]at *
 grind
def ajk:=fb (kR::acR) aeZ<|am fun F p0 p1 p2=>by
 try simp only[aa,ae]at *
 omega
def aAI:=fb (iP::(.not kR)::af0::adT) (.not (cmp .lss (.int 30) mQ))<|cr fun F p0 p1 p2 p3 p4 p5=>by
 have:=aC p0
 try simp only[aa,ae]at *
 omega
def aC4:=fb ([qn]) TM<|aB fun F p0=>by
 try simp only[aa,ae]at *
 obtain⟨a1,ea1,qa1⟩:=ab ((E.I F dp)+(1))
 try simp only[ea1]at *
 omega
def alc:=fb ([(.not (cmp .lss ai mQ)),OX]) o8<|ax fun F p0 p1=>by
 try simp only[aa,ae]at *
 omega
def ah9:=fb ([(.not kR),rx,Hd,Pf]) (fn 144 (pr gc RG))<|aH fun F p0 p1 p2 p3=>by
 have:=@awL F _ _ _ _ _ _ p2 p3
 try simp only[aa,ae]at *
 grind
def aGg:=fb ([kR,qn]) afr<|ax fun F p0 p1=>by
 try simp only[aa,ae]at *
 obtain⟨a2,ea2,qa2⟩:=ab ((E.I F dp)+(1))
 try simp only[ea2]at *
 omega
def amM:=fb (iP::kR::adT) (.not (cmp .lss (.int 2147483648) (fn 6 (pr mQ (.int 1)))))<|aR fun F p0 p1 p2 p3 p4=>by
 have:=aC p0
 have:=oq F (pr aU (.int 2))
 try simp only[aa,ae]at *
 omega
def az9:=fb ([qn]) (cmp .eql (.ar .add .i64 dp (.int 1)) (.int 1))<|aB fun F p0=>by
 try simp only[aa,ae]at *
 obtain⟨a1,ea1,qa1⟩:=ab ((E.I F dp)+(1))
 try simp only[ea1]at *
 omega
def arJ:=fb KX TM<|cr fun F p0 p1 p2 p3 p4 p5=>by
 have:=aC p0
 have:=oq F (pr aU (.int 2))
 try simp only[aa,ae]at *
 obtain⟨a5,ea5,qa5⟩:=ab ((E.I F dp)+(1))
 try simp only[ea5]at *
 omega
def awp:=fb ([kR,qn,abM,Bq,rx,iP]) (fn 148 (pr (fn 23 (pr (fn 1 (pr aU (fn 6 (pr (fn 8 (pr dp (.int 2))) (.int 0))))) (fn 10 (.int 0)))) ab3))<|cr fun F p0 p1 p2 p3 p4 p5=>by
 have:=aC p5
 have:=@aM F dp (.int 1)
 have:=@afu F (fn 10 (.int 0)) dp (.ar .add .i64 dp (.int 1)) aU (fn 1 (pr aU (fn 6 (pr (fn 8 (pr dp (.int 2))) (.int 0))))) rfl
 try simp only[aa,ae]at *
 grind
def aGn:=fb Qq afr<|am fun F p0 p1 p2=>by
 try simp only[aa,ae]at *
 obtain⟨a3,ea3,qa3⟩:=ab ((E.I F dp)+(1))
 try simp only[ea3]at *
 omega
def azv:=fb ([qn]) ac9<|aB fun F p0=>by
 try simp only[aa,ae]at *
 obtain⟨a2,ea2,qa2⟩:=ab ((E.I F dp)+(1))
 try simp only[ea2]at *
 omega
def awR:=fb KX (cmp .eql (fn 6 (pr mQ (.int 1))) (.ar .add .i64 dp (.int 1)))<|cr fun F p0 p1 p2 p3 p4 p5=>by
 have:=aC p0
 have:=oq F (pr aU (.int 2))
 try simp only[aa,ae]at *
 obtain⟨a5,ea5,qa5⟩:=ab ((E.I F dp)+(1))
 try simp only[ea5]at *
 omega
def aFg:=fb ([kR,qn]) agF<|ax fun F p0 p1=>by
 try simp only[aa,ae]at *
 obtain⟨a2,ea2,qa2⟩:=ab ((E.I F dp)+(1))
 try simp only[ea2]at *
 omega
def aFm:=fb ([(cmp .eql (fn 0 gc) mQ)]) (cmp .eql (fn 6 (pr (fn 0 gc) (.int 1))) (fn 6 (pr mQ (.int 1))))<|aB fun F p0=>by
 try simp only[aa,ae]at *
 omega
def axc:=fb (kR::abM::Bq::rx::iP::Pf::HW) (fn 148 (pr (fn 3 (pr gc (fn 23 (pr (fn 1 (pr aU (fn 6 (pr (fn 8 (pr dp (.int 2))) (.int 0))))) (fn 10 (.int 0)))))) ab3))<|dw fun F p0 p1 p2 p3 p4 p5 p6 p7=>by
 have:=aC p4
 have:=@aM F dp (.int 1)
 have:=@afu F gc dp (.ar .add .i64 dp (.int 1)) aU (fn 1 (pr aU (fn 6 (pr (fn 8 (pr dp (.int 2))) (.int 0))))) rfl
 try simp only[aa,ae]at *
 grind
def awW:=fb KX ac9<|cr fun F p0 p1 p2 p3 p4 p5=>by
 have:=aC p0
 have:=oq F (pr aU (.int 2))
 try simp only[aa,ae]at *
 obtain⟨a5,ea5,qa5⟩:=ab ((E.I F dp)+(1))
 try simp only[ea5]at *
 omega
def aBC:=fb Qq agF<|am fun F p0 p1 p2=>by
 try simp only[aa,ae]at *
 obtain⟨a3,ea3,qa3⟩:=ab ((E.I F dp)+(1))
 try simp only[ea3]at *
 omega
def iK:List Fa:=[avk,azK,aII,ao2,ax4,aAs,Ie,aoh,aiW,apP,ar4,ajx,aFQ,ajk,aAI,aC4,alc,ah9,aGg,amM,az9,arJ,awp,aGn,azv,awR,aFg,aFm,axc,awW,aBC]
theorem axs:aW Try.prog (bu (arn)):=sc iK (aCj) agh ([]) (by kernel_rfl) (by kernel_rfl)
def Wi:Nl:=nc axs agh
def axI:=fa ((fn 155 (pr aA (.int 0))))<|fun F=>by
 rfl
def asD:=fb RU (.imp uw abK)<|aB fun F p0=>by
 rfl
def anj:=fa ((fn 157 (pr (fn 1 (pr aA (fn 6 (pr (fn 8 (pr bV (.int 14))) (.int 12))))) (.int 0))))<|fun F=>by
 rfl
def azm:=fb ([(.not aac),Iq]) Rh<|ax fun F p0 p1=>by
 try simp only[aa]at *
 grind
def akC:=fb ([(.not Iq),W8,(.not (cmp .lss (fn 9 (pr aA (.int 14))) bV))]) Rh<|am fun F p0 p1 p2=>by
 have:=@aj9 F bV (fn 9 (pr aA (.int 14))) aA
 try simp only[aa]at *
 grind
def asn:=fb Uf NV<|am fun F p0 p1 p2=>by
 try simp only[aa,ae]at *
 obtain⟨a6,ea6,qa6⟩:=ab ((E.I F aU)+(1))
 omega
def azw:=fb vT (.not (cmp .lss (.ar .add .i64 bV (.int 1)) (.int 0)))<|ax fun F p0 p1=>by
 try simp only[aa,ae]at *
 obtain⟨a5,ea5,qa5⟩:=ab ((E.I F bV)+(1))
 omega
def aES:=fb XT (.not (cmp .lss (fn 9 (pr (fn 1 (pr aA (fn 6 (pr (fn 8 (pr bV (.int 14))) (.int 12))))) (.int 2))) (.ar .add .i64 aU (.int 1))))<|aH fun F p0 p1 p2 p3=>by
 try simp only[aa,ae]at *
 obtain⟨a6,ea6,qa6⟩:=ab ((E.I F aU)+(1))
 omega
def axF:=fb vT (.not (cmp .lss (.int 13) (.ar .add .i64 bV (.int 1))))<|ax fun F p0 p1=>by
 try simp only[aa,ae]at *
 obtain⟨a5,ea5,qa5⟩:=ab ((E.I F bV)+(1))
 omega
def aoJ:=fb (Fr::(.not (cmp .lss (.int 5) (fn 9 (pr (fn 1 (pr (fn 1 (pr aA (fn 6 (pr (fn 8 (pr bV (.int 14))) (.int 12))))) (fn 6 (pr (fn 8 (pr aU (.int 2))) (.int 1))))) (.int 5)))))::Rt::HF) (fn 157 (pr (fn 1 (pr aA (fn 6 (pr (fn 8 (pr bV (.int 14))) (.int 12))))) (.ar .add .i64 aU (.int 1))))<|aR fun F p0 p1 p2 p3 p4=>by
 have:=@aM F aU (.int 1)
 have:=@asv F aU (.ar .add .i64 aU (.int 1)) (fn 1 (pr aA (fn 6 (pr (fn 8 (pr bV (.int 14))) (.int 12)))))
 try simp only[aa]at *
 grind
def aC0:=fb (Iq::vT) (.not (cmp .lss (fn 9 (pr aA (.int 14))) (.ar .add .i64 bV (.int 1))))<|am fun F p0 p1 p2=>by
 try simp only[aa,ae]at *
 obtain⟨a5,ea5,qa5⟩:=ab ((E.I F bV)+(1))
 omega
def aIP:=fb Uf (cmp .lss (fn 7 (pr (fn 9 (pr (fn 1 (pr aA (fn 6 (pr (fn 8 (pr bV (.int 14))) (.int 12))))) (.int 2))) (.ar .add .i64 aU (.int 1)))) (fn 7 (pr (fn 9 (pr (fn 1 (pr aA (fn 6 (pr (fn 8 (pr bV (.int 14))) (.int 12))))) (.int 2))) aU)))<|am fun F p0 p1 p2=>by
 try simp only[aa,ae]at *
 obtain⟨a6,ea6,qa6⟩:=ab ((E.I F aU)+(1))
 omega
def ahM:=fb ((.not Fr)::Rt::Wf::Wn::(.not (cmp .lss (.int 5) (fn 9 (pr (fn 1 (pr aA (fn 6 (pr (fn 8 (pr bV (.int 14))) (.int 11))))) (.int 5)))))::W8::vT) (fn 155 (pr aA (.ar .add .i64 bV (.int 1))))<|dw fun F p0 p1 p2 p3 p4 p5 p6 p7=>by
 have:=@aM F bV (.int 1)
 have:=@aHC F bV (.ar .add .i64 bV (.int 1)) aA
 have:=@rA F (fn 1 (pr aA (fn 6 (pr (fn 8 (pr bV (.int 14))) (.int 11))))) (fn 1 (pr aA (fn 6 (pr (fn 8 (pr bV (.int 14))) (.int 12)))))
 have hy1:E.I F aU=E.I F (fn 9 (pr (fn 1 (pr aA (fn 6 (pr (fn 8 (pr bV (.int 14))) (.int 12))))) (.int 2)))->E.B F (fn 157 (pr (fn 1 (pr aA (fn 6 (pr (fn 8 (pr bV (.int 14))) (.int 12))))) (fn 9 (pr (fn 1 (pr aA (fn 6 (pr (fn 8 (pr bV (.int 14))) (.int 12))))) (.int 2)))))=true:=fun hh=>by simp_all[yv]
 try simp only[aa]at *
 grind
def azZ:=fb XT (.not (cmp .lss (fn 7 (pr (fn 9 (pr (fn 1 (pr aA (fn 6 (pr (fn 8 (pr bV (.int 14))) (.int 12))))) (.int 2))) (.ar .add .i64 aU (.int 1)))) (.int 0)))<|aH fun F p0 p1 p2 p3=>by
 try simp only[aa,ae]at *
 obtain⟨a6,ea6,qa6⟩:=ab ((E.I F aU)+(1))
 omega
def amL:=fb vT (cmp .lss (fn 7 (pr (.int 13) (.ar .add .i64 bV (.int 1)))) (fn 7 (pr (.int 13) bV)))<|ax fun F p0 p1=>by
 try simp only[aa,ae]at *
 obtain⟨a5,ea5,qa5⟩:=ab ((E.I F bV)+(1))
 omega
def az4:=fb vT (.not (cmp .lss (fn 7 (pr (.int 13) (.ar .add .i64 bV (.int 1)))) (.int 0)))<|ax fun F p0 p1=>by
 try simp only[aa,ae]at *
 obtain⟨a5,ea5,qa5⟩:=ab ((E.I F bV)+(1))
 omega
def lH:List Fa:=[axI,asD,anj,azm,akC,asn,azw,aES,axF,aoJ,aC0,aIP,ahM,azZ,amL,az4]
theorem avA:aW Try.prog (bu (aiq)):=sc lH (aum) Wi ([]) (by kernel_rfl) (by kernel_rfl)
def aaw:Nl:=nc avA Wi
def ajK:=fb ([CY]) nq<|aB fun F p0=>by
 rfl
def aqQ:=fb ([Qk]) nq<|aB fun F p0=>by
 rfl
def ahl:=fb ([af4]) nq<|aB fun F p0=>by
 rfl
def auE:=fb ([afS]) nq<|aB fun F p0=>by
 rfl
def aAz:=fb ([Zf]) nq<|aB fun F p0=>by
 rfl
def ajs:=fb ([Q3]) nq<|aB fun F p0=>by
 rfl
def amy:=fb ([VU]) nq<|aB fun F p0=>by
 rfl
def ars:=fb ([Ro]) nq<|aB fun F p0=>by
 rfl
def aFn:=fb ([(.not CY),(.not Qk),(.not af4),(.not afS),(.not Zf),(.not Q3),(.not VU),(.not Ro)]) LI<|dw fun F p0 p1 p2 p3 p4 p5 p6 p7=>by
 have:=@nA F aA
 try simp only[aa]at *
 grind
def azJ:=fb ([(.not CY)]) (.imp uw MW)<|aB fun F p0=>by
 rfl
def aty:=fb ([(.not CY)]) (.imp uw MI)<|aB fun F p0=>by
 rfl
def aGP:=fb ([LI]) nq<|aB fun F p0=>by
 rfl
def aiX:=fb ([Fy]) Fy<|aB fun F p0=>by
 omega
def axj:=fb ([Ya,(.not (cmp .lss (.int 30) (fn 9 (pr (fn 1 (pr aA (.int 0))) (.int 12))))),(.not (cmp .lss (.int 30) (fn 0 (fn 1 (pr aA (.int 31)))))),ND,Fy,LI]) (.imp (.not (cmp .lss (.int 30) (fn 9 (pr (fn 1 (pr aA (.int 32))) (.int 2))))) (fn 117 aA))<|cr fun F p0 p1 p2 p3 p4 p5=>by
 have:=@gz F aA
 try simp only[aa]at *
 grind
def ay3:=fb ([ND]) ND<|aB fun F p0=>by
 omega
def asJ:=fa ((fn 158 (pr (fn 1 (pr aA (.int 29))) (.int 0))))<|fun F=>by
 rfl
def aw5:=fa ((fn 158 (pr (fn 1 (pr aA (.int 30))) (.int 0))))<|fun F=>by
 rfl
def auC:=fb Ul NV<|am fun F p0 p1 p2=>by
 try simp only[aa,ae]at *
 obtain⟨a4,ea4,qa4⟩:=ab ((E.I F aU)+(1))
 omega
def akz:=fb ((.not yP)::Qn::(.not (cmp .lss (fn 9 (pr (fn 1 (pr aA (.int 29))) (.int 5))) aU))::Ih) R4<|aH fun F p0 p1 p2 p3=>by
 have:=@agR F (fn 1 (pr aA (.int 29))) aU (fn 9 (pr (fn 1 (pr aA (.int 29))) (.int 5)))
 try simp only[aa]at *
 grind
def ak6:=fb adc NV<|am fun F p0 p1 p2=>by
 try simp only[aa,ae]at *
 obtain⟨a4,ea4,qa4⟩:=ab ((E.I F aU)+(1))
 omega
def auW:=fb ([(cmp .eql bV (.int 1)),Fy]) R4<|ax fun F p0 p1=>by
 try simp only[aa]at *
 simp_all
def aD6:=fb ([yP,sR]) (.not (cmp .lss (fn 9 (pr (fn 1 (pr aA (.int 29))) (.int 5))) (.ar .add .i64 aU (.int 1))))<|ax fun F p0 p1=>by
 try simp only[aa,ae]at *
 obtain⟨a4,ea4,qa4⟩:=ab ((E.I F aU)+(1))
 omega
def azr:=fb ([(.not (cmp .lss (.int 2) bV)),Ti,(cmp .eql bV (.int 0))]) ac3<|am fun F p0 p1 p2=>by
 try simp only[aa,ae]at *
 obtain⟨a3,ea3,qa3⟩:=ab ((E.I F bV)+(1))
 omega
def arZ:=fb ((.not Jw)::UN::(.not (cmp .lss (fn 9 (pr (fn 1 (pr aA (.int 30))) (.int 5))) aU))::abe) ac3<|aH fun F p0 p1 p2 p3=>by
 have:=@agR F (fn 1 (pr aA (.int 30))) aU (fn 9 (pr (fn 1 (pr aA (.int 30))) (.int 5)))
 try simp only[aa]at *
 grind
def aAk:=fb (yP::(.not (cmp .lss (.int 6) (fn 9 (pr (fn 1 (pr (fn 1 (pr aA (.int 29))) (fn 6 (pr (fn 8 (pr aU (.int 5))) (.int 4))))) (.int 2)))))::sR::Qn::Ih) (fn 158 (pr (fn 1 (pr aA (.int 29))) (.ar .add .i64 aU (.int 1))))<|aR fun F p0 p1 p2 p3 p4=>by
 have:=@aM F aU (.int 1)
 have:=@Yp F (fn 1 (pr aA (.int 29))) aU (.ar .add .i64 aU (.int 1))
 try simp only[aa]at *
 grind
def air:=fb (Jw::(.not (cmp .lss (.int 6) (fn 9 (pr (fn 1 (pr (fn 1 (pr aA (.int 30))) (fn 6 (pr (fn 8 (pr aU (.int 5))) (.int 4))))) (.int 2)))))::UN::Wa) (fn 158 (pr (fn 1 (pr aA (.int 30))) (.ar .add .i64 aU (.int 1))))<|aR fun F p0 p1 p2 p3 p4=>by
 have:=@aM F aU (.int 1)
 have:=@Yp F (fn 1 (pr aA (.int 30))) aU (.ar .add .i64 aU (.int 1))
 try simp only[aa]at *
 grind
def alX:=fb Ul (cmp .lss (fn 7 (pr (fn 9 (pr (fn 1 (pr aA (.int 29))) (.int 5))) (.ar .add .i64 aU (.int 1)))) (fn 7 (pr (fn 9 (pr (fn 1 (pr aA (.int 29))) (.int 5))) aU)))<|am fun F p0 p1 p2=>by
 try simp only[aa,ae]at *
 obtain⟨a4,ea4,qa4⟩:=ab ((E.I F aU)+(1))
 omega
def azs:=fb adc (cmp .lss (fn 7 (pr (fn 9 (pr (fn 1 (pr aA (.int 30))) (.int 5))) (.ar .add .i64 aU (.int 1)))) (fn 7 (pr (fn 9 (pr (fn 1 (pr aA (.int 30))) (.int 5))) aU)))<|am fun F p0 p1 p2=>by
 try simp only[aa,ae]at *
 obtain⟨a4,ea4,qa4⟩:=ab ((E.I F aU)+(1))
 omega
def anu:=fb ([yP,sR]) (.not (cmp .lss (fn 7 (pr (fn 9 (pr (fn 1 (pr aA (.int 29))) (.int 5))) (.ar .add .i64 aU (.int 1)))) (.int 0)))<|ax fun F p0 p1=>by
 try simp only[aa,ae]at *
 obtain⟨a4,ea4,qa4⟩:=ab ((E.I F aU)+(1))
 omega
def qS:List Fa:=[ajK,aqQ,ahl,auE,aAz,ajs,amy,ars,aFn,azJ,aty,aGP,aiX,axj,ay3,asJ,aw5,PD,G79,G85,G90,auC,akz,ak6,auW,aD6,azr,agv,arZ,aAk,O9,air,aa0,alX,adS,azs,YG,anu,US]
theorem atl:aW Try.prog (bu (amS)):=sc qS (asZ) aaw ([]) (by kernel_rfl) (by kernel_rfl)
def aqJ:Nl:=nc atl aaw
end
end Go.Proofs.Ytnnbmcfabojjjaa.payHolds
