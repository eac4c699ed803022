/-
  PayPays: contracts of functions, part 19.
-/
import Derived.Test.YtnnbmcfabojjjaaGreatPayPaysPartr
namespace Go.Proofs.YtnnbmcfabojjjaaGreat.payPays
open Go.ChangeShapes Go.WideShapes Go.ChangeAt Go.RowKit
open Go.SX
open Go.SX.E (fn pr cmp var)
set_option linter.unusedVariables false
set_option linter.unusedSimpArgs false
set_option maxRecDepth 100000
noncomputable section
abbrev aT:E:=var 68
abbrev o9:E:=var 29
abbrev Vr:E:=cmp .lss aT o9
abbrev Vv:E:=var 40
abbrev LF:E:=cmp .eql Vv o9
abbrev Vz:E:=cmp .lss aT Vv
abbrev me:E:=var 32
abbrev VE:E:=cmp .lss aT me
abbrev VI:E:=var 41
abbrev LH:E:=cmp .eql VI me
abbrev UI:E:=cmp .lss aT VI
abbrev sM:E:=var 2
abbrev aq6:E:=cmp .lss sM (.int 0)
abbrev ard:E:=.not aq6
abbrev ma:E:=var 48
abbrev UY:E:=cmp .lss ma sM
abbrev aru:E:=cmp .lss (.int 40) sM
abbrev arA:E:=.not aru
abbrev arG:E:=cmp .lss ma (.int 0)
abbrev arO:E:=.not arG
abbrev Vs:=[arO]
abbrev arS:=arA::Vs
abbrev arT:=UY::arS
abbrev Vt:=ard::arT
abbrev sP:E:=var 5
abbrev arU:E:=cmp .lss sP (.int 0)
abbrev arV:E:=.not arU
abbrev bh:E:=var 80
abbrev Vu:E:=cmp .lss bh sP
abbrev arW:E:=cmp .lss (.int 40) sP
abbrev arX:E:=.not arW
abbrev iK:List E:=[(.not (cmp .lss bh (.int 0)))]
abbrev arY:=arX::iK
abbrev arZ:=Vu::arY
abbrev Vw:=arV::arZ
abbrev qK:E:=.not (cmp .lss (.ar .add .i64 bh (.int 1)) (.int 0))
abbrev fY:E:=var 64
abbrev ar0:E:=cmp .lss fY (.int 4)
abbrev ar1:E:=cmp .lss fY (.int 0)
abbrev ar2:E:=.not ar1
abbrev LG:=[ar2]
abbrev Ee:=ar0::LG
abbrev ar3:E:=cmp .lss (.ar .add .i64 fY (.int 1)) (.int 0)
abbrev Vx:E:=.not ar3
abbrev sQ:E:=var 8
abbrev ar4:E:=cmp .lss sQ (.int 0)
abbrev ar5:E:=.not ar4
abbrev Vy:E:=cmp .lss bh sQ
abbrev ar6:E:=cmp .lss (.int 40) sQ
abbrev ar7:E:=.not ar6
abbrev ar8:=ar7::iK
abbrev ar9:=Vy::ar8
abbrev VA:=ar5::ar9
abbrev sR:E:=var 11
abbrev asa:E:=cmp .lss sR (.int 0)
abbrev asb:E:=.not asa
abbrev VB:E:=cmp .lss bh sR
abbrev asc:E:=cmp .lss (.int 40) sR
abbrev asd:E:=.not asc
abbrev ase:=asd::iK
abbrev asf:=VB::ase
abbrev VC:=asb::asf
abbrev sS:E:=var 14
abbrev asg:E:=cmp .lss sS (.int 0)
abbrev ash:E:=.not asg
abbrev VD:E:=cmp .lss bh sS
abbrev asi:E:=cmp .lss (.int 40) sS
abbrev asj:E:=.not asi
abbrev asl:=asj::iK
abbrev asm:=VD::asl
abbrev VF:=ash::asm
abbrev sT:E:=var 17
abbrev asn:E:=cmp .lss sT (.int 0)
abbrev aso:E:=.not asn
abbrev VG:E:=cmp .lss bh sT
abbrev asp:E:=cmp .lss (.int 40) sT
abbrev asq:E:=.not asp
abbrev asr:=asq::iK
abbrev ass:=VG::asr
abbrev VH:=aso::ass
abbrev sU:E:=var 20
abbrev ast:E:=cmp .lss sU (.int 0)
abbrev asu:E:=.not ast
abbrev VJ:E:=cmp .lss bh sU
abbrev asv:E:=cmp .lss (.int 40) sU
abbrev asw:E:=.not asv
abbrev asx:=asw::iK
abbrev asy:=VJ::asx
abbrev VK:=asu::asy
abbrev sV:E:=var 23
abbrev asz:E:=cmp .lss sV (.int 0)
abbrev asA:E:=.not asz
abbrev VL:E:=cmp .lss bh sV
abbrev asB:E:=cmp .lss (.int 40) sV
abbrev asC:E:=.not asB
abbrev asD:=asC::iK
abbrev asE:=VL::asD
abbrev VM:=asA::asE
abbrev sW:E:=var 26
abbrev asF:E:=cmp .lss sW (.int 0)
abbrev aqT:E:=.not asF
abbrev UJ:E:=cmp .lss bh sW
abbrev aqU:E:=cmp .lss (.int 40) sW
abbrev aqV:E:=.not aqU
abbrev aqW:=aqV::iK
abbrev aqX:=UJ::aqW
abbrev UK:=aqT::aqX
abbrev lX:E:=var 50
abbrev aqY:E:=cmp .lss lX (.int 2)
abbrev aqZ:E:=cmp .lss lX (.int 0)
abbrev aq0:E:=.not aqZ
abbrev aq1:=[aq0]
abbrev Ec:=aqY::aq1
abbrev pa:E:=.not (cmp .lss aT (.int 0))
abbrev lY:E:=var 60
abbrev aq2:E:=cmp .lss lY (.int 0)
abbrev aq3:E:=.not aq2
abbrev aq4:E:=cmp .lss lY (.int 2)
abbrev aq5:=[aq4]
abbrev Ed:=aq3::aq5
abbrev sN:E:=var 35
abbrev aq7:E:=cmp .lss sN (.int 0)
abbrev aq8:E:=.not aq7
abbrev UL:E:=cmp .lss fY sN
abbrev aq9:E:=cmp .lss (.int 40) sN
abbrev ara:E:=.not aq9
abbrev arb:=ara::LG
abbrev arc:=UL::arb
abbrev UM:=aq8::arc
abbrev sO:E:=var 38
abbrev arf:E:=cmp .lss sO (.int 0)
abbrev arg:E:=.not arf
abbrev lZ:E:=var 72
abbrev UN:E:=cmp .lss lZ sO
abbrev arh:E:=cmp .lss (.int 40) sO
abbrev ari:E:=.not arh
abbrev arj:E:=cmp .lss lZ (.int 0)
abbrev ark:E:=.not arj
abbrev UO:=[ark]
abbrev arl:=ari::UO
abbrev arm:=UN::arl
abbrev UP:=arg::arm
abbrev UQ:=UY::Vs
abbrev UR:=Vu::iK
abbrev US:=Vy::iK
abbrev UT:=VB::iK
abbrev UU:=VD::iK
abbrev UV:=VG::iK
abbrev UW:=VJ::iK
abbrev UX:=VL::iK
abbrev UZ:=UJ::iK
abbrev d6:E:=var 77
abbrev arn:E:=pr d6 o9
abbrev Va:E:=fn 158 arn
abbrev bX:E:=var 76
abbrev aro:E:=cmp .lss o9 (.int 0)
abbrev arp:E:=.not aro
abbrev arq:E:=cmp .lss (.int 40) o9
abbrev ars:E:=.not arq
abbrev art:=[Vz]
abbrev Vb:=pa::art
abbrev arv:=ars::Vb
abbrev arw:=arp::arv
abbrev LB:=LF::arw
abbrev arx:E:=cmp .lss (.ar .add .i64 aT (.int 1)) (.int 0)
abbrev Vc:E:=.not arx
abbrev d7:E:=var 78
abbrev ary:E:=pr d7 me
abbrev Vd:E:=fn 158 ary
abbrev arz:E:=cmp .lss me (.int 0)
abbrev arB:E:=.not arz
abbrev arC:E:=cmp .lss (.int 40) me
abbrev arD:E:=.not arC
abbrev Ve:=[UI,pa]
abbrev arE:=arD::Ve
abbrev arF:=arB::arE
abbrev LC:=LH::arF
abbrev Vf:=UL::LG
abbrev Vg:=UN::UO
abbrev Vh:E:=cmp .lss bX (fn 9 (pr (fn 1 (pr d6 (fn 6 (pr (fn 8 (pr aT (.int 5))) (.int 4))))) (.int 2)))
abbrev arH:E:=cmp .lss bX (.int 0)
abbrev LD:E:=.not arH
abbrev arJ:=[pa,Vr]
abbrev arK:=LD::arJ
abbrev arL:=Vh::arK
abbrev Vi:=Va::arL
abbrev arM:E:=cmp .lss (.ar .add .i64 bX (.int 1)) (.int 0)
abbrev Vj:E:=.not arM
abbrev Vk:E:=cmp .lss bX (fn 9 (pr (fn 1 (pr d7 (fn 6 (pr (fn 8 (pr aT (.int 5))) (.int 4))))) (.int 2)))
abbrev arN:=[VE,pa]
abbrev arP:=LD::arN
abbrev arQ:=Vk::arP
abbrev Vl:=Vd::arQ
abbrev Vm:=[LD,pa]
abbrev Vn:=Vh::Vm
abbrev Vo:E:=cmp .lss (fn 7 (pr (.int 40) (.ar .add .i64 aT (.int 1)))) (fn 7 (pr (.int 40) aT))
abbrev Vp:=Vk::Vm
abbrev arR:E:=cmp .lss (fn 7 (pr (.int 40) (.ar .add .i64 aT (.int 1)))) (.int 0)
abbrev Vq:E:=.not arR
def axQ:=fb [Vr,LF] Vz<|ai fun F p0 p1=>by
 simp only[aa]at *;omega
def axR:=fb [VE,LH] UI<|ai fun F p0 p1=>by
 simp only[aa]at *;omega
def axT:=fb Vt (.not (cmp .lss (.ar .add .i64 ma (.int 1)) (.int 0)))<|am fun F p0 p1 p2 p3=>by
 simp only[aa,ab]at *
 obtain⟨a,b,c⟩:=ae (E.I F ma+1)
 omega
def axU:=fb Vw qK<|am fun F p0 p1 p2 p3=>by
 simp only[aa,ab]at *
 obtain⟨a,b,c⟩:=ae (E.I F bh+1)
 omega
def axV:=fb Ee Vx<|ai fun F p0 p1=>by
 simp only[aa,ab]at *
 obtain⟨a,b,c⟩:=ae (E.I F fY+1)
 omega
def axW:=fb VA qK<|am fun F p0 p1 p2 p3=>by
 simp only[aa,ab]at *
 obtain⟨a,b,c⟩:=ae (E.I F bh+1)
 omega
def axX:=fb VC qK<|am fun F p0 p1 p2 p3=>by
 simp only[aa,ab]at *
 obtain⟨a,b,c⟩:=ae (E.I F bh+1)
 omega
def axY:=fb VF qK<|am fun F p0 p1 p2 p3=>by
 simp only[aa,ab]at *
 obtain⟨a,b,c⟩:=ae (E.I F bh+1)
 omega
def axZ:=fb VH qK<|am fun F p0 p1 p2 p3=>by
 simp only[aa,ab]at *
 obtain⟨a,b,c⟩:=ae (E.I F bh+1)
 omega
def ax0:=fb VK qK<|am fun F p0 p1 p2 p3=>by
 simp only[aa,ab]at *
 obtain⟨a,b,c⟩:=ae (E.I F bh+1)
 omega
def ax1:=fb VM qK<|am fun F p0 p1 p2 p3=>by
 simp only[aa,ab]at *
 obtain⟨a,b,c⟩:=ae (E.I F bh+1)
 omega
def ax2:=fb UK qK<|am fun F p0 p1 p2 p3=>by
 simp only[aa,ab]at *
 obtain⟨a,b,c⟩:=ae (E.I F bh+1)
 omega
def ax4:=fb Ec (.not (cmp .lss (.ar .add .i64 lX (.int 1)) (.int 0)))<|ai fun F p0 p1=>by
 simp only[aa,ab]at *
 obtain⟨a,b,c⟩:=ae (E.I F lX+1)
 omega
def ax5:=fb [pa,(fn 158 (pr (var 69) o9))] (fn 158 (pr (fn 2 (pr (var 69) (pr (fn 6 (pr (fn 8 (pr aT (.int 5))) (.int 2))) (.ar .add .i64 (fn 1 (pr (var 69) (fn 6 (pr (fn 8 (pr aT (.int 5))) (.int 2))))) (.int 1))))) o9))<|ai fun F p0 p1=>by
 have h0:0<=E.I F aT:=by simp only[aa]at *;omega
 exact ajG h0 p1
def ax6:=fb Ed (.not (cmp .lss (.ar .add .i64 lY (.int 1)) (.int 0)))<|ai fun F p0 p1=>by
 simp only[aa,ab]at *
 obtain⟨a,b,c⟩:=ae (E.I F lY+1)
 omega
def ax7:=fb [pa,(fn 158 (pr (var 70) me))] (fn 158 (pr (fn 2 (pr (var 70) (pr (fn 6 (pr (fn 8 (pr aT (.int 5))) (.int 2))) (.ar .add .i64 (fn 1 (pr (var 70) (fn 6 (pr (fn 8 (pr aT (.int 5))) (.int 2))))) (.int 1))))) me))<|ai fun F p0 p1=>by
 have h0:0<=E.I F aT:=by simp only[aa]at *;omega
 exact ajG h0 p1
def ax8:=fb UM Vx<|am fun F p0 p1 p2 p3=>by
 simp only[aa,ab]at *
 obtain⟨a,b,c⟩:=ae (E.I F fY+1)
 omega
def ax9:=fb UP (.not (cmp .lss (.ar .add .i64 lZ (.int 1)) (.int 0)))<|am fun F p0 p1 p2 p3=>by
 simp only[aa,ab]at *
 obtain⟨a,b,c⟩:=ae (E.I F lZ+1)
 omega
def aya:=fb UQ (.not (cmp .lss sM (.ar .add .i64 ma (.int 1))))<|ai fun F p0 p1=>by
 simp only[aa,ab]at *
 obtain⟨a,b,c⟩:=ae (E.I F ma+1)
 omega
def ayb:=fb UR (.not (cmp .lss sP (.ar .add .i64 bh (.int 1))))<|ai fun F p0 p1=>by
 simp only[aa,ab]at *
 obtain⟨a,b,c⟩:=ae (E.I F bh+1)
 omega
def ayc:=fb Ee (.not (cmp .lss (.int 4) (.ar .add .i64 fY (.int 1))))<|ai fun F p0 p1=>by
 simp only[aa,ab]at *
 obtain⟨a,b,c⟩:=ae (E.I F fY+1)
 omega
def ayd:=fb US (.not (cmp .lss sQ (.ar .add .i64 bh (.int 1))))<|ai fun F p0 p1=>by
 simp only[aa,ab]at *
 obtain⟨a,b,c⟩:=ae (E.I F bh+1)
 omega
def ayf:=fb UT (.not (cmp .lss sR (.ar .add .i64 bh (.int 1))))<|ai fun F p0 p1=>by
 simp only[aa,ab]at *
 obtain⟨a,b,c⟩:=ae (E.I F bh+1)
 omega
def ayg:=fb UU (.not (cmp .lss sS (.ar .add .i64 bh (.int 1))))<|ai fun F p0 p1=>by
 simp only[aa,ab]at *
 obtain⟨a,b,c⟩:=ae (E.I F bh+1)
 omega
def ayh:=fb UV (.not (cmp .lss sT (.ar .add .i64 bh (.int 1))))<|ai fun F p0 p1=>by
 simp only[aa,ab]at *
 obtain⟨a,b,c⟩:=ae (E.I F bh+1)
 omega
def ayi:=fb UW (.not (cmp .lss sU (.ar .add .i64 bh (.int 1))))<|ai fun F p0 p1=>by
 simp only[aa,ab]at *
 obtain⟨a,b,c⟩:=ae (E.I F bh+1)
 omega
def ayj:=fb UX (.not (cmp .lss sV (.ar .add .i64 bh (.int 1))))<|ai fun F p0 p1=>by
 simp only[aa,ab]at *
 obtain⟨a,b,c⟩:=ae (E.I F bh+1)
 omega
def ayk:=fb UZ (.not (cmp .lss sW (.ar .add .i64 bh (.int 1))))<|ai fun F p0 p1=>by
 simp only[aa,ab]at *
 obtain⟨a,b,c⟩:=ae (E.I F bh+1)
 omega
def ayl:=fb Ec (.not (cmp .lss (.int 2) (.ar .add .i64 lX (.int 1))))<|ai fun F p0 p1=>by
 simp only[aa,ab]at *
 obtain⟨a,b,c⟩:=ae (E.I F lX+1)
 omega
def aym:=fb [pa,Va] (fn 158 (pr (fn 2 (pr d6 (pr (fn 6 (pr (fn 8 (pr aT (.int 5))) (.int 4))) (fn 21 (pr (fn 1 (pr d6 (fn 6 (pr (fn 8 (pr aT (.int 5))) (.int 4))))) (fn 2 (pr (fn 1 (pr d6 (fn 6 (pr (fn 8 (pr aT (.int 5))) (.int 4))))) (pr (fn 6 (pr (fn 8 (pr bX (.int 2))) (.int 0))) (.ar .add .i64 (fn 1 (pr (fn 1 (pr d6 (fn 6 (pr (fn 8 (pr aT (.int 5))) (.int 4))))) (fn 6 (pr (fn 8 (pr bX (.int 2))) (.int 0))))) (.int 1)))))))))) o9))<|ai fun F p0 p1=>by
 have h0:0<=E.I F aT:=by simp only[aa]at *;omega
 exact ajH h0 p1
def ayn:=fb LB Vc<|aw fun F p0 p1 p2 p3 p4=>by
 simp only[aa,ab]at *
 obtain⟨a,b,c⟩:=ae (E.I F aT+1)
 omega
def ayo:=fb [pa,Vd] (fn 158 (pr (fn 2 (pr d7 (pr (fn 6 (pr (fn 8 (pr aT (.int 5))) (.int 4))) (fn 21 (pr (fn 1 (pr d7 (fn 6 (pr (fn 8 (pr aT (.int 5))) (.int 4))))) (fn 2 (pr (fn 1 (pr d7 (fn 6 (pr (fn 8 (pr aT (.int 5))) (.int 4))))) (pr (fn 6 (pr (fn 8 (pr bX (.int 2))) (.int 0))) (.ar .add .i64 (fn 1 (pr (fn 1 (pr d7 (fn 6 (pr (fn 8 (pr aT (.int 5))) (.int 4))))) (fn 6 (pr (fn 8 (pr bX (.int 2))) (.int 0))))) (.int 1)))))))))) me))<|ai fun F p0 p1=>by
 have h0:0<=E.I F aT:=by simp only[aa]at *;omega
 exact ajH h0 p1
def ayq:=fb LC Vc<|aw fun F p0 p1 p2 p3 p4=>by
 simp only[aa,ab]at *
 obtain⟨a,b,c⟩:=ae (E.I F aT+1)
 omega
def ayr:=fb Ed (.not (cmp .lss (.int 2) (.ar .add .i64 lY (.int 1))))<|ai fun F p0 p1=>by
 simp only[aa,ab]at *
 obtain⟨a,b,c⟩:=ae (E.I F lY+1)
 omega
def ays:=fb Vf (.not (cmp .lss sN (.ar .add .i64 fY (.int 1))))<|ai fun F p0 p1=>by
 simp only[aa,ab]at *
 obtain⟨a,b,c⟩:=ae (E.I F fY+1)
 omega
def ayt:=fb Vg (.not (cmp .lss sO (.ar .add .i64 lZ (.int 1))))<|ai fun F p0 p1=>by
 simp only[aa,ab]at *
 obtain⟨a,b,c⟩:=ae (E.I F lZ+1)
 omega
def ayu:=fb Vt (cmp .lss (fn 7 (pr sM (.ar .add .i64 ma (.int 1)))) (fn 7 (pr sM ma)))<|am fun F p0 p1 p2 p3=>by
 simp only[aa,ab]at *
 obtain⟨a,b,c⟩:=ae (E.I F ma+1)
 omega
def ayv:=fb Vw (cmp .lss (fn 7 (pr sP (.ar .add .i64 bh (.int 1)))) (fn 7 (pr sP bh)))<|am fun F p0 p1 p2 p3=>by
 simp only[aa,ab]at *
 obtain⟨a,b,c⟩:=ae (E.I F bh+1)
 omega
def ayw:=fb Ee (cmp .lss (fn 7 (pr (.int 4) (.ar .add .i64 fY (.int 1)))) (fn 7 (pr (.int 4) fY)))<|ai fun F p0 p1=>by
 simp only[aa,ab]at *
 obtain⟨a,b,c⟩:=ae (E.I F fY+1)
 omega
def ayx:=fb VA (cmp .lss (fn 7 (pr sQ (.ar .add .i64 bh (.int 1)))) (fn 7 (pr sQ bh)))<|am fun F p0 p1 p2 p3=>by
 simp only[aa,ab]at *
 obtain⟨a,b,c⟩:=ae (E.I F bh+1)
 omega
def ayy:=fb VC (cmp .lss (fn 7 (pr sR (.ar .add .i64 bh (.int 1)))) (fn 7 (pr sR bh)))<|am fun F p0 p1 p2 p3=>by
 simp only[aa,ab]at *
 obtain⟨a,b,c⟩:=ae (E.I F bh+1)
 omega
def ayz:=fb VF (cmp .lss (fn 7 (pr sS (.ar .add .i64 bh (.int 1)))) (fn 7 (pr sS bh)))<|am fun F p0 p1 p2 p3=>by
 simp only[aa,ab]at *
 obtain⟨a,b,c⟩:=ae (E.I F bh+1)
 omega
def ayB:=fb VH (cmp .lss (fn 7 (pr sT (.ar .add .i64 bh (.int 1)))) (fn 7 (pr sT bh)))<|am fun F p0 p1 p2 p3=>by
 simp only[aa,ab]at *
 obtain⟨a,b,c⟩:=ae (E.I F bh+1)
 omega
def ayC:=fb VK (cmp .lss (fn 7 (pr sU (.ar .add .i64 bh (.int 1)))) (fn 7 (pr sU bh)))<|am fun F p0 p1 p2 p3=>by
 simp only[aa,ab]at *
 obtain⟨a,b,c⟩:=ae (E.I F bh+1)
 omega
def ayD:=fb VM (cmp .lss (fn 7 (pr sV (.ar .add .i64 bh (.int 1)))) (fn 7 (pr sV bh)))<|am fun F p0 p1 p2 p3=>by
 simp only[aa,ab]at *
 obtain⟨a,b,c⟩:=ae (E.I F bh+1)
 omega
def ayE:=fb UK (cmp .lss (fn 7 (pr sW (.ar .add .i64 bh (.int 1)))) (fn 7 (pr sW bh)))<|am fun F p0 p1 p2 p3=>by
 simp only[aa,ab]at *
 obtain⟨a,b,c⟩:=ae (E.I F bh+1)
 omega
def ayF:=fb Ec (cmp .lss (fn 7 (pr (.int 2) (.ar .add .i64 lX (.int 1)))) (fn 7 (pr (.int 2) lX)))<|ai fun F p0 p1=>by
 simp only[aa,ab]at *
 obtain⟨a,b,c⟩:=ae (E.I F lX+1)
 omega
def ayG:=fb Vi Vj<|aw fun F p0 p1 p2 p3 p4=>by
 have h0:0<=E.I F aT:=by simp only[aa]at *;omega
 have h9:=by simp only[aa]at *;omega
 have:=Iv h0 h9 p0
 simp only[aa,ab]at *
 obtain⟨a,b,c⟩:=ae (E.I F bX+1)
 omega
def ayH:=fb (LF::Vb) (.not (cmp .lss o9 (.ar .add .i64 aT (.int 1))))<|ag fun F p0 p1 p2=>by
 simp only[aa,ab]at *
 obtain⟨a,b,c⟩:=ae (E.I F aT+1)
 omega
def ayI:=fb Vl Vj<|aw fun F p0 p1 p2 p3 p4=>by
 have h0:0<=E.I F aT:=by simp only[aa]at *;omega
 have h9:E.I F aT<E.I F me:=by simp only[aa]at *;omega
 have:=Iv h0 h9 p0
 simp only[aa,ab]at *
 obtain⟨a,b,c⟩:=ae (E.I F bX+1)
 omega
def ayJ:=fb (LH::Ve) (.not (cmp .lss me (.ar .add .i64 aT (.int 1))))<|ag fun F p0 p1 p2=>by
 simp only[aa,ab]at *
 obtain⟨a,b,c⟩:=ae (E.I F aT+1)
 omega
def ayK:=fb Ed (cmp .lss (fn 7 (pr (.int 2) (.ar .add .i64 lY (.int 1)))) (fn 7 (pr (.int 2) lY)))<|ai fun F p0 p1=>by
 simp only[aa,ab]at *
 obtain⟨a,b,c⟩:=ae (E.I F lY+1)
 omega
def ayM:=fb UM (cmp .lss (fn 7 (pr sN (.ar .add .i64 fY (.int 1)))) (fn 7 (pr sN fY)))<|am fun F p0 p1 p2 p3=>by
 simp only[aa,ab]at *
 obtain⟨a,b,c⟩:=ae (E.I F fY+1)
 omega
def ayN:=fb UP (cmp .lss (fn 7 (pr sO (.ar .add .i64 lZ (.int 1)))) (fn 7 (pr sO lZ)))<|am fun F p0 p1 p2 p3=>by
 simp only[aa,ab]at *
 obtain⟨a,b,c⟩:=ae (E.I F lZ+1)
 omega
def ayO:=fb UQ (.not (cmp .lss (fn 7 (pr sM (.ar .add .i64 ma (.int 1)))) (.int 0)))<|ai fun F p0 p1=>by
 simp only[aa,ab]at *
 obtain⟨a,b,c⟩:=ae (E.I F ma+1)
 omega
def ayP:=fb UR (.not (cmp .lss (fn 7 (pr sP (.ar .add .i64 bh (.int 1)))) (.int 0)))<|ai fun F p0 p1=>by
 simp only[aa,ab]at *
 obtain⟨a,b,c⟩:=ae (E.I F bh+1)
 omega
def ayQ:=fb Ee (.not (cmp .lss (fn 7 (pr (.int 4) (.ar .add .i64 fY (.int 1)))) (.int 0)))<|ai fun F p0 p1=>by
 simp only[aa,ab]at *
 obtain⟨a,b,c⟩:=ae (E.I F fY+1)
 omega
def ayR:=fb US (.not (cmp .lss (fn 7 (pr sQ (.ar .add .i64 bh (.int 1)))) (.int 0)))<|ai fun F p0 p1=>by
 simp only[aa,ab]at *
 obtain⟨a,b,c⟩:=ae (E.I F bh+1)
 omega
def ayS:=fb UT (.not (cmp .lss (fn 7 (pr sR (.ar .add .i64 bh (.int 1)))) (.int 0)))<|ai fun F p0 p1=>by
 simp only[aa,ab]at *
 obtain⟨a,b,c⟩:=ae (E.I F bh+1)
 omega
def ayT:=fb UU (.not (cmp .lss (fn 7 (pr sS (.ar .add .i64 bh (.int 1)))) (.int 0)))<|ai fun F p0 p1=>by
 simp only[aa,ab]at *
 obtain⟨a,b,c⟩:=ae (E.I F bh+1)
 omega
def ayU:=fb UV (.not (cmp .lss (fn 7 (pr sT (.ar .add .i64 bh (.int 1)))) (.int 0)))<|ai fun F p0 p1=>by
 simp only[aa,ab]at *
 obtain⟨a,b,c⟩:=ae (E.I F bh+1)
 omega
def ayV:=fb UW (.not (cmp .lss (fn 7 (pr sU (.ar .add .i64 bh (.int 1)))) (.int 0)))<|ai fun F p0 p1=>by
 simp only[aa,ab]at *
 obtain⟨a,b,c⟩:=ae (E.I F bh+1)
 omega
def ayX:=fb UX (.not (cmp .lss (fn 7 (pr sV (.ar .add .i64 bh (.int 1)))) (.int 0)))<|ai fun F p0 p1=>by
 simp only[aa,ab]at *
 obtain⟨a,b,c⟩:=ae (E.I F bh+1)
 omega
def ayY:=fb UZ (.not (cmp .lss (fn 7 (pr sW (.ar .add .i64 bh (.int 1)))) (.int 0)))<|ai fun F p0 p1=>by
 simp only[aa,ab]at *
 obtain⟨a,b,c⟩:=ae (E.I F bh+1)
 omega
def ayZ:=fb Ec (.not (cmp .lss (fn 7 (pr (.int 2) (.ar .add .i64 lX (.int 1)))) (.int 0)))<|ai fun F p0 p1=>by
 simp only[aa,ab]at *
 obtain⟨a,b,c⟩:=ae (E.I F lX+1)
 omega
def ay0:=fb Vn (.not (cmp .lss (fn 9 (pr (fn 1 (pr (fn 2 (pr d6 (pr (fn 6 (pr (fn 8 (pr aT (.int 5))) (.int 4))) (fn 21 (pr (fn 1 (pr d6 (fn 6 (pr (fn 8 (pr aT (.int 5))) (.int 4))))) (fn 2 (pr (fn 1 (pr d6 (fn 6 (pr (fn 8 (pr aT (.int 5))) (.int 4))))) (pr (fn 6 (pr (fn 8 (pr bX (.int 2))) (.int 0))) (.ar .add .i64 (fn 1 (pr (fn 1 (pr d6 (fn 6 (pr (fn 8 (pr aT (.int 5))) (.int 4))))) (fn 6 (pr (fn 8 (pr bX (.int 2))) (.int 0))))) (.int 1)))))))))) (fn 6 (pr (fn 8 (pr aT (.int 5))) (.int 4))))) (.int 2))) (.ar .add .i64 bX (.int 1))))<|ag fun F p0 p1 p2=>by
 have h0:0<=E.I F aT:=by simp only[aa]at *;omega
 have hr:E.I F (fn 9 (pr (fn 1 (pr (fn 2 (pr _ (pr _ (fn 21 (pr _ (fn 2 (pr _ (pr (fn 6 (pr (fn 8 (pr bX (.int 2))) (.int 0))) (.ar .add .i64 (fn 1 (pr (fn 1 (pr d6 (fn 6 (pr (fn 8 (pr aT (.int 5))) (.int 4))))) (fn 6 (pr (fn 8 (pr bX (.int 2))) (.int 0))))) (.int 1)))))))))) _)) _))=E.I F (fn 9 (pr (fn 1 (pr d6 _)) _)):=xX h0;simp only[aa,ab]at *
 obtain⟨a,b,c⟩:=ae (E.I F bX+1)
 omega
def ay1:=fb LB Vo<|aw fun F p0 p1 p2 p3 p4=>by
 simp only[aa,ab]at *
 obtain⟨a,b,c⟩:=ae (E.I F aT+1)
 omega
def ay2:=fb Vp (.not (cmp .lss (fn 9 (pr (fn 1 (pr (fn 2 (pr d7 (pr (fn 6 (pr (fn 8 (pr aT (.int 5))) (.int 4))) (fn 21 (pr (fn 1 (pr d7 (fn 6 (pr (fn 8 (pr aT (.int 5))) (.int 4))))) (fn 2 (pr (fn 1 (pr d7 (fn 6 (pr (fn 8 (pr aT (.int 5))) (.int 4))))) (pr (fn 6 (pr (fn 8 (pr bX (.int 2))) (.int 0))) (.ar .add .i64 (fn 1 (pr (fn 1 (pr d7 (fn 6 (pr (fn 8 (pr aT (.int 5))) (.int 4))))) (fn 6 (pr (fn 8 (pr bX (.int 2))) (.int 0))))) (.int 1)))))))))) (fn 6 (pr (fn 8 (pr aT (.int 5))) (.int 4))))) (.int 2))) (.ar .add .i64 bX (.int 1))))<|ag fun F p0 p1 p2=>by
 have h0:0<=E.I F aT:=by simp only[aa]at *;omega
 have hr:E.I F (fn 9 (pr (fn 1 (pr (fn 2 (pr _ (pr _ (fn 21 (pr _ (fn 2 (pr _ (pr (fn 6 (pr (fn 8 (pr bX (.int 2))) (.int 0))) (.ar .add .i64 (fn 1 (pr (fn 1 (pr d7 (fn 6 (pr (fn 8 (pr aT (.int 5))) (.int 4))))) (fn 6 (pr (fn 8 (pr bX (.int 2))) (.int 0))))) (.int 1)))))))))) _)) _))=E.I F (fn 9 (pr (fn 1 (pr d7 _)) _)):=xX h0;simp only[aa,ab]at *
 obtain⟨a,b,c⟩:=ae (E.I F bX+1)
 omega
def ay3:=fb LC Vo<|aw fun F p0 p1 p2 p3 p4=>by
 simp only[aa,ab]at *
 obtain⟨a,b,c⟩:=ae (E.I F aT+1)
 omega
def ay4:=fb Ed (.not (cmp .lss (fn 7 (pr (.int 2) (.ar .add .i64 lY (.int 1)))) (.int 0)))<|ai fun F p0 p1=>by
 simp only[aa,ab]at *
 obtain⟨a,b,c⟩:=ae (E.I F lY+1)
 omega
def ay5:=fb Vf (.not (cmp .lss (fn 7 (pr sN (.ar .add .i64 fY (.int 1)))) (.int 0)))<|ai fun F p0 p1=>by
 simp only[aa,ab]at *
 obtain⟨a,b,c⟩:=ae (E.I F fY+1)
 omega
def ay6:=fb Vg (.not (cmp .lss (fn 7 (pr sO (.ar .add .i64 lZ (.int 1)))) (.int 0)))<|ai fun F p0 p1=>by
 simp only[aa,ab]at *
 obtain⟨a,b,c⟩:=ae (E.I F lZ+1)
 omega
def ay8:=fb Vi (cmp .lss (fn 7 (pr (fn 9 (pr (fn 1 (pr (fn 2 (pr d6 (pr (fn 6 (pr (fn 8 (pr aT (.int 5))) (.int 4))) (fn 21 (pr (fn 1 (pr d6 (fn 6 (pr (fn 8 (pr aT (.int 5))) (.int 4))))) (fn 2 (pr (fn 1 (pr d6 (fn 6 (pr (fn 8 (pr aT (.int 5))) (.int 4))))) (pr (fn 6 (pr (fn 8 (pr bX (.int 2))) (.int 0))) (.ar .add .i64 (fn 1 (pr (fn 1 (pr d6 (fn 6 (pr (fn 8 (pr aT (.int 5))) (.int 4))))) (fn 6 (pr (fn 8 (pr bX (.int 2))) (.int 0))))) (.int 1)))))))))) (fn 6 (pr (fn 8 (pr aT (.int 5))) (.int 4))))) (.int 2))) (.ar .add .i64 bX (.int 1)))) (fn 7 (pr (fn 9 (pr (fn 1 (pr d6 (fn 6 (pr (fn 8 (pr aT (.int 5))) (.int 4))))) (.int 2))) bX)))<|aw fun F p0 p1 p2 p3 p4=>by
 have h0:0<=E.I F aT:=by simp only[aa]at *;omega
 have h9:=by simp only[aa]at *;omega
 have:=Iv h0 h9 p0
 have hr:E.I F (fn 9 (pr (fn 1 (pr (fn 2 (pr _ (pr _ (fn 21 (pr _ (fn 2 (pr _ (pr (fn 6 (pr (fn 8 (pr bX (.int 2))) (.int 0))) (.ar .add .i64 (fn 1 (pr (fn 1 (pr d6 (fn 6 (pr (fn 8 (pr aT (.int 5))) (.int 4))))) (fn 6 (pr (fn 8 (pr bX (.int 2))) (.int 0))))) (.int 1)))))))))) _)) _))=E.I F (fn 9 (pr (fn 1 (pr d6 _)) _)):=xX h0;simp only[aa,ab]at *
 obtain⟨a,b,c⟩:=ae (E.I F bX+1)
 omega
def ay9:=fb LB Vq<|aw fun F p0 p1 p2 p3 p4=>by
 simp only[aa,ab]at *
 obtain⟨a,b,c⟩:=ae (E.I F aT+1)
 omega
def aza:=fb Vl (cmp .lss (fn 7 (pr (fn 9 (pr (fn 1 (pr (fn 2 (pr d7 (pr (fn 6 (pr (fn 8 (pr aT (.int 5))) (.int 4))) (fn 21 (pr (fn 1 (pr d7 (fn 6 (pr (fn 8 (pr aT (.int 5))) (.int 4))))) (fn 2 (pr (fn 1 (pr d7 (fn 6 (pr (fn 8 (pr aT (.int 5))) (.int 4))))) (pr (fn 6 (pr (fn 8 (pr bX (.int 2))) (.int 0))) (.ar .add .i64 (fn 1 (pr (fn 1 (pr d7 (fn 6 (pr (fn 8 (pr aT (.int 5))) (.int 4))))) (fn 6 (pr (fn 8 (pr bX (.int 2))) (.int 0))))) (.int 1)))))))))) (fn 6 (pr (fn 8 (pr aT (.int 5))) (.int 4))))) (.int 2))) (.ar .add .i64 bX (.int 1)))) (fn 7 (pr (fn 9 (pr (fn 1 (pr d7 (fn 6 (pr (fn 8 (pr aT (.int 5))) (.int 4))))) (.int 2))) bX)))<|aw fun F p0 p1 p2 p3 p4=>by
 have h0:0<=E.I F aT:=by simp only[aa]at *;omega
 have h9:E.I F aT<E.I F me:=by simp only[aa]at *;omega
 have:=Iv h0 h9 p0
 have hr:E.I F (fn 9 (pr (fn 1 (pr (fn 2 (pr _ (pr _ (fn 21 (pr _ (fn 2 (pr _ (pr (fn 6 (pr (fn 8 (pr bX (.int 2))) (.int 0))) (.ar .add .i64 (fn 1 (pr (fn 1 (pr d7 (fn 6 (pr (fn 8 (pr aT (.int 5))) (.int 4))))) (fn 6 (pr (fn 8 (pr bX (.int 2))) (.int 0))))) (.int 1)))))))))) _)) _))=E.I F (fn 9 (pr (fn 1 (pr d7 _)) _)):=xX h0;simp only[aa,ab]at *
 obtain⟨a,b,c⟩:=ae (E.I F bX+1)
 omega
def azb:=fb LC Vq<|aw fun F p0 p1 p2 p3 p4=>by
 simp only[aa,ab]at *
 obtain⟨a,b,c⟩:=ae (E.I F aT+1)
 omega
def azc:=fb Vn (.not (cmp .lss (fn 7 (pr (fn 9 (pr (fn 1 (pr (fn 2 (pr d6 (pr (fn 6 (pr (fn 8 (pr aT (.int 5))) (.int 4))) (fn 21 (pr (fn 1 (pr d6 (fn 6 (pr (fn 8 (pr aT (.int 5))) (.int 4))))) (fn 2 (pr (fn 1 (pr d6 (fn 6 (pr (fn 8 (pr aT (.int 5))) (.int 4))))) (pr (fn 6 (pr (fn 8 (pr bX (.int 2))) (.int 0))) (.ar .add .i64 (fn 1 (pr (fn 1 (pr d6 (fn 6 (pr (fn 8 (pr aT (.int 5))) (.int 4))))) (fn 6 (pr (fn 8 (pr bX (.int 2))) (.int 0))))) (.int 1)))))))))) (fn 6 (pr (fn 8 (pr aT (.int 5))) (.int 4))))) (.int 2))) (.ar .add .i64 bX (.int 1)))) (.int 0)))<|ag fun F p0 p1 p2=>by
 have h0:0<=E.I F aT:=by simp only[aa]at *;omega
 have hr:E.I F (fn 9 (pr (fn 1 (pr (fn 2 (pr _ (pr _ (fn 21 (pr _ (fn 2 (pr _ (pr (fn 6 (pr (fn 8 (pr bX (.int 2))) (.int 0))) (.ar .add .i64 (fn 1 (pr (fn 1 (pr d6 (fn 6 (pr (fn 8 (pr aT (.int 5))) (.int 4))))) (fn 6 (pr (fn 8 (pr bX (.int 2))) (.int 0))))) (.int 1)))))))))) _)) _))=E.I F (fn 9 (pr (fn 1 (pr d6 _)) _)):=xX h0;simp only[aa,ab]at *
 obtain⟨a,b,c⟩:=ae (E.I F bX+1)
 omega
def azd:=fb Vp (.not (cmp .lss (fn 7 (pr (fn 9 (pr (fn 1 (pr (fn 2 (pr d7 (pr (fn 6 (pr (fn 8 (pr aT (.int 5))) (.int 4))) (fn 21 (pr (fn 1 (pr d7 (fn 6 (pr (fn 8 (pr aT (.int 5))) (.int 4))))) (fn 2 (pr (fn 1 (pr d7 (fn 6 (pr (fn 8 (pr aT (.int 5))) (.int 4))))) (pr (fn 6 (pr (fn 8 (pr bX (.int 2))) (.int 0))) (.ar .add .i64 (fn 1 (pr (fn 1 (pr d7 (fn 6 (pr (fn 8 (pr aT (.int 5))) (.int 4))))) (fn 6 (pr (fn 8 (pr bX (.int 2))) (.int 0))))) (.int 1)))))))))) (fn 6 (pr (fn 8 (pr aT (.int 5))) (.int 4))))) (.int 2))) (.ar .add .i64 bX (.int 1)))) (.int 0)))<|ag fun F p0 p1 p2=>by
 have h0:0<=E.I F aT:=by simp only[aa]at *;omega
 have hr:E.I F (fn 9 (pr (fn 1 (pr (fn 2 (pr _ (pr _ (fn 21 (pr _ (fn 2 (pr _ (pr (fn 6 (pr (fn 8 (pr bX (.int 2))) (.int 0))) (.ar .add .i64 (fn 1 (pr (fn 1 (pr d7 (fn 6 (pr (fn 8 (pr aT (.int 5))) (.int 4))))) (fn 6 (pr (fn 8 (pr bX (.int 2))) (.int 0))))) (.int 1)))))))))) _)) _))=E.I F (fn 9 (pr (fn 1 (pr d7 _)) _)):=xX h0;simp only[aa,ab]at *
 obtain⟨a,b,c⟩:=ae (E.I F bX+1)
 omega
def p80:List Fa:=[dv,axQ,axR,axT,axU,axV,axW,axX,axY,axZ,ax0,ax1,ax2,ax4,ax5,ax6,ax7,ax8,ax9,aya,ayb,ayc,ayd,ayf,ayg,ayh,ayi,ayj,ayk,ayl,aym,ayn,ayo,ayq,ayr,ays,ayt,ayu,ayv,ayw,ayx,ayy,ayz,ayB,ayC,ayD,ayE,ayF,ayG,ayH,ayI,ayJ,ayK,ayM,ayN,ayO,ayP,ayQ,ayR,ayS,ayT,ayU,ayV,ayX,ayY,ayZ,ay0,ay1,ay2,ay3,ay4,ay5,ay6,ay8,ay9,aza,azb,azc,azd]
theorem a6W:aI Tryz.prog (aX (a2l)):=sc p80 (aV7) amy ([]) (by kernel_rfl) (by kernel_rfl)
def a6N:Nl:=nc a6W amy
end
end Go.Proofs.YtnnbmcfabojjjaaGreat.payPays
