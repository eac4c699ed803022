/-
  CombatDamages: contracts of functions, part 12.
-/
import Derived.Test.YtnggbcblogpnfaaGreatCombatDamagesPartk
namespace Go.Proofs.YtnggbcblogpnfaaGreat.combatDamages
open Go.ChangeShapes Go.WideShapes Go.ChangeAt Go.RowKit
open Go.SX
open Go.SX.E (fn pr cmp var)
set_option linter.unusedVariables false
set_option linter.unusedSimpArgs false
set_option maxRecDepth 100000
noncomputable section
abbrev dF:E:=var 2
abbrev Io:E:=cmp .lss dF (.int 0)
abbrev bV:E:=var 13
abbrev QQ3:E:=cmp .eql (.ar .and .i64 (.int 0) bV) bV
abbrev aB:E:=var 0
abbrev QQ5:E:=pr dF bV
abbrev QQ6:E:=pr aB QQ5
abbrev TE:E:=fn 222 QQ6
abbrev TH:E:=.iff QQ3 TE
abbrev IP:E:=cmp .lss dF (fn 9 (pr aB (.int 14)))
abbrev Ip:List E:=[(.not Io),IP]
abbrev ag:E:=var 1
abbrev avm:E:=cmp .lss (.int 500) ag
abbrev Iq:E:=.not avm
abbrev avp:E:=cmp .lss ag (.int 1)
abbrev Ir:E:=.not avp
abbrev S3:E:=fn 228 aB
abbrev avF:E:=cmp .lss (.int 30) (fn 9 (pr aB (.int 12)))
abbrev avN:E:=.not avF
abbrev S7:=[avN]
abbrev av4:=S3::S7
abbrev av5:=Ir::av4
abbrev Tb:=Iq::av5
abbrev aM:E:=var 8
abbrev aI:E:=var 9
abbrev Bj:E:=cmp .lss aM aI
abbrev awA:E:=cmp .lss (fn 9 (pr aB (.int 12))) aI
abbrev Iz:E:=.not awA
abbrev awM:E:=cmp .lss aM (.int 0)
abbrev ID:E:=.not awM
abbrev mj:=Bj::Iz::ID::S7
abbrev Bo:E:=.not Bj
abbrev Bp:E:=cmp .lss aM (fn 9 (pr aB (.int 12)))
abbrev aw4:E:=cmp .lss aI aM
abbrev Ts:E:=.not aw4
abbrev IE:=[Ts]
abbrev aw5:E:=cmp .lss (fn 9 (pr aB (.int 12))) aM
abbrev Tt:E:=.not aw5
abbrev aw6:=Iz::IE
abbrev aw7:List E:=(.not Bp)::aw6
abbrev Tu:=Bo::aw7
abbrev aw8:E:=pr aM aI
abbrev aw9:E:=pr ag aw8
abbrev axa:E:=pr aB aw9
abbrev Tv:E:=fn 226 axa
abbrev axb:E:=cmp .eql (fn 1 (pr aB (fn 6 (pr (fn 8 (pr aM (.int 12))) (.int 0))))) ag
abbrev Tw:E:=.and Bp axb
abbrev ml:E:=.bool false
abbrev Tx:E:=cmp .lss (.ar .sub .i64 (fn 1 (pr aB (fn 6 (pr (fn 8 (pr (.wr .i64 (.ar .shr .u64 (.wr .u64 (.ar .add .i64 aM aI)) (.int 1))) (.int 12))) (.int 0))))) ag) (.int 0)
abbrev axc:=ID::Tb
abbrev axd:=Iz::axc
abbrev Ty:=Tv::axd
abbrev tR:E:=fn 115 aB
abbrev ax:E:=var 4
abbrev aA:E:=var 3
abbrev Tz:E:=cmp .lss aA (fn 9 (pr (fn 1 (pr aB (.int 0))) (.int 12)))
abbrev axe:E:=cmp .lss aA (.int 0)
abbrev TA:E:=.not axe
abbrev IF:E:=fn 226 (pr (fn 1 (pr aB (.int 0))) (pr ag (pr aA aA)))
abbrev axf:E:=cmp .lss (fn 120 (pr aB (pr ag (fn 9 (pr (fn 1 (pr aB (.int 0))) (.int 12)))))) (.int 0)
abbrev IG:E:=.not axf
abbrev IH:=[IG,tR]
abbrev TB:=[TA]
abbrev rc:E:=fn 262 (pr aB (pr ag (.int 0)))
abbrev Bq:E:=cmp .lss (.int 0) (.mx (.int 0) aB)
abbrev II:E:=cmp .lss (.int 0) (.mx (.int 0) ag)
abbrev TC:E:=cmp .lss (.int 0) (.ar .add .i64 (.mx (.int 0) aB) (.mx (.int 0) ag))
abbrev w9:E:=cmp .eql (.mx (.int 0) (.mn (.ar .add .i64 (.mx (.int 0) aB) (.mx (.int 0) ag)) (.int 99))) (fn 252 (pr aB ag))
abbrev Br:E:=cmp .lss (.mx (.int 0) aB) (.int 0)
abbrev TD:E:=cmp .lss (.mx (.int 0) ag) (.int 0)
abbrev TF:E:=cmp .lss (.ar .add .i64 (.mx (.int 0) aB) (.mx (.int 0) ag)) (.int 0)
abbrev bG:E:=var 7
abbrev tS:E:=fn 262 (pr ax (pr bG aM))
abbrev IJ:E:=pr bG (.int 0)
abbrev IK:E:=pr aM (.int 0)
abbrev Bt:E:=cmp .eql dF (.int (-1))
abbrev TG:E:=cmp .eql (fn 252 (pr (fn 252 (pr (.int 0) bG)) aM)) (fn 251 (pr aB (pr dF (pr ax (pr bG aM)))))
abbrev IL:E:=cmp .lss (.int 0) (fn 251 (pr aB (pr dF (pr ax (pr bG aM)))))
abbrev axg:E:=pr dF (.int 8)
abbrev axh:E:=pr aB axg
abbrev TI:E:=fn 222 axh
abbrev TJ:E:=.and IL TI
abbrev Bu:E:=.not (cmp .lss (.int 100000) ag)
abbrev Bv:E:=.not (cmp .lss ag (.int 0))
abbrev Bw:E:=.not (cmp .lss (.int 100000) dF)
abbrev Bx:E:=.not (cmp .lss dF aB)
abbrev By:E:=cmp .lss (.int 0) aB
abbrev IM:E:=cmp .lss (.int 0) (.ar .sub .i64 (.int 0) ag)
abbrev TK:E:=cmp .lss (.int 0) (.ar .add .i64 aB (.ar .sub .i64 (.int 0) ag))
abbrev IN:E:=cmp .eql (.mx (.int 0) (.mn (.ar .add .i64 aB (.ar .sub .i64 (.int 0) ag)) dF)) (.mx (.int 0) (fn 7 (pr aB ag)))
abbrev gm:E:=fn 115 ag
abbrev dR:E:=var 33
abbrev axi:E:=fn 190 dR
abbrev dS:E:=var 30
abbrev axj:E:=fn 190 dS
abbrev axk:=[axj]
abbrev Bz:=axi::axk
abbrev br:E:=var 46
abbrev bB:E:=var 47
abbrev d8:E:=var 6
abbrev aE:E:=var 48
abbrev cg:E:=var 10
abbrev aG:E:=var 49
abbrev dY:E:=var 12
abbrev dk:E:=var 50
abbrev ch:E:=var 16
abbrev dZ:E:=var 15
abbrev dl:E:=var 51
abbrev ci:E:=var 19
abbrev d4:E:=var 18
abbrev dm:E:=var 52
abbrev cj:E:=var 22
abbrev d5:E:=var 21
abbrev dp:E:=var 53
abbrev ck:E:=var 25
abbrev d6:E:=var 24
abbrev dq:E:=var 54
abbrev cm:E:=var 28
abbrev d7:E:=var 27
abbrev dr:E:=var 55
abbrev cn:E:=var 31
abbrev dt:E:=var 56
abbrev co:E:=var 34
abbrev du:E:=var 57
abbrev bO:E:=var 37
abbrev cL:E:=var 36
abbrev dv:E:=var 58
abbrev bR:E:=var 40
abbrev cR:E:=var 39
abbrev dz:E:=var 45
abbrev Be:E:=cmp .lss dz bR
abbrev Bf:E:=cmp .eql bR (fn 9 (pr (fn 1 (pr ag (.int 32))) (.int 2)))
abbrev iM:E:=var 44
abbrev avn:E:=pr aB (pr ag dz)
abbrev avo:E:=pr iM avn
abbrev S2:E:=fn 253 avo
abbrev w4:E:=fn 253 (pr iM (pr aB (pr ag (fn 9 (pr (fn 1 (pr ag (.int 32))) (.int 2))))))
abbrev w5:E:=cmp .eql (.ar .sub .i64 (.int 1) (fn 1 (pr ag (.int 34)))) (.int 0)
abbrev qS:E:=fn 200 (pr cR (fn 1 (pr ag (.int 32))))
abbrev pi:E:=fn 200 (pr cL (fn 1 (pr ag (.int 31))))
abbrev qT:E:=fn 187 (pr dR (fn 1 (pr ag (.int 30))))
abbrev qU:E:=fn 187 (pr dS (fn 1 (pr ag (.int 29))))
abbrev qV:E:=fn 200 (pr d7 (fn 1 (pr ag (.int 23))))
abbrev qW:E:=fn 200 (pr d6 (fn 1 (pr ag (.int 22))))
abbrev qX:E:=fn 200 (pr d5 (fn 1 (pr ag (.int 21))))
abbrev qY:E:=fn 200 (pr d4 (fn 1 (pr ag (.int 20))))
abbrev qZ:E:=fn 200 (pr dZ (fn 1 (pr ag (.int 9))))
abbrev q8:E:=fn 200 (pr dY (fn 1 (pr ag (.int 8))))
abbrev q9:E:=fn 200 (pr aI (fn 1 (pr ag (.int 7))))
abbrev ra:E:=fn 200 (pr d8 (fn 1 (pr ag (.int 6))))
abbrev pj:E:=fn 200 (pr aA (fn 1 (pr ag (.int 0))))
abbrev rb:E:=fn 117 ag
abbrev avq:=[pj,rb]
abbrev avr:=ra::avq
abbrev avs:=q9::avr
abbrev avt:=q8::avs
abbrev avu:=qZ::avt
abbrev avv:=qY::avu
abbrev avw:=qX::avv
abbrev avx:=qW::avw
abbrev avy:=qV::avx
abbrev avz:=qU::avy
abbrev avA:=qT::avz
abbrev avB:=pi::avA
abbrev Bg:=qS::avB
abbrev S4:E:=cmp .eql (fn 1 (pr ag (.int 34))) (.int 1)
abbrev w6:=[pj,gm]
abbrev avC:=qZ::q8::q9::ra::w6
abbrev avD:=qY::avC
abbrev avE:=qX::avD
abbrev avG:=qW::avE
abbrev avH:=qV::avG
abbrev avI:=qU::avH
abbrev avJ:=qT::avI
abbrev avK:=pi::avJ
abbrev S5:=qS::avK
abbrev S6:E:=cmp .eql (fn 1 (pr ag (.int 34))) (.int 0)
abbrev avL:E:=cmp .lss dz (.int 0)
abbrev avM:E:=.not avL
abbrev Is:=[avM]
abbrev avO:=gm::Is
abbrev avP:=pj::avO
abbrev avQ:=ra::avP
abbrev avR:=q9::avQ
abbrev avS:=q8::avR
abbrev avT:=qZ::avS
abbrev avU:=qY::avT
abbrev avV:=qX::avU
abbrev avW:=qW::avV
abbrev avX:=qV::avW
abbrev avY:=qU::avX
abbrev avZ:=qT::avY
abbrev av0:=pi::avZ
abbrev av1:=qS::av0
abbrev av2:=Bf::av1
abbrev S8:=Be::av2
abbrev It:E:=var 59
abbrev cy:E:=cmp .lss It (.int 0)
abbrev av3:E:=.not cy
abbrev S9:E:=cmp .eql It (fn 120 (pr (dc [(pr br ax),(pr bB bG),(pr aE cg),(pr aG bV),(pr dk ch),(pr dl ci),(pr dm cj),(pr dp ck),(pr dq cm),(pr dr cn),(pr dt co),(pr du bO),(pr dv bR)] [aA,d8,aI,dY,dZ,d4,d5,d6,d7,dS,dR,cL,cR] ag 0 (fn 1 (pr ag (.int 1)))) (pr (fn 1 (pr cR (fn 6 (pr (fn 8 (pr dz (.int 2))) (.int 1))))) (fn 9 (pr (fn 28 (pr (pr br ax) aA)) (.int 12))))))
abbrev Ta:E:=var 60
abbrev bM:E:=var 61
abbrev bH:E:=var 62
abbrev ij:E:=var 63
abbrev kb:E:=var 64
abbrev kc:E:=var 65
abbrev kd:E:=var 66
abbrev kf:E:=var 67
abbrev kg:E:=var 68
abbrev kh:E:=var 69
abbrev ki:E:=var 70
abbrev kj:E:=var 71
abbrev kl:E:=var 72
abbrev km:E:=cmp .lss bB bO
abbrev tO:E:=cmp .eql bO (fn 9 (pr (fn 1 (pr ag (.int 31))) (.int 1)))
abbrev w7:E:=cmp .lss bB (.int 0)
abbrev av6:E:=.not w7
abbrev av7:=[av6]
abbrev Iu:=tO::av7
abbrev av8:=km::Iu
abbrev av9:=rb::av8
abbrev Bh:E:=cmp .eql br (fn 254 (pr aB (pr ag bB)))
abbrev w8:E:=cmp .eql br (fn 254 (pr aB (pr ag (fn 0 (fn 1 (pr ag (.int 31)))))))
abbrev Iv:E:=cmp .lss (.int 9999) br
abbrev awa:E:=.not Iv
abbrev Tc:E:=cmp .lss br (.int 0)
abbrev awb:E:=.not Tc
abbrev Td:=[q9,ra,pj,gm,Bh]
abbrev awc:=q8::Td
abbrev awd:=qZ::awc
abbrev awe:=qY::awd
abbrev awf:=qX::awe
abbrev awg:=qW::awf
abbrev awh:=qV::awg
abbrev awi:=qU::awh
abbrev awj:=qT::awi
abbrev awk:=pi::awj
abbrev awl:=qS::awk
abbrev awm:=awb::awl
abbrev awn:=awa::awm
abbrev Te:=Bh::av7
abbrev awo:=rb::Te
abbrev awp:=gm::awo
abbrev Tf:E:=cmp .lss aG ax
abbrev tP:E:=fn 255 (pr aE (pr aB (pr ag aG)))
abbrev Iw:E:=cmp .lss aG (.int 0)
abbrev awq:E:=.not Iw
abbrev Ix:E:=cmp .eql ax (fn 9 (pr (fn 1 (pr ag (.int 0))) (.int 12)))
abbrev Bi:=[awq,Ix]
abbrev awr:=Tf::Bi
abbrev aws:=rb::awr
abbrev Bl:=gm::av7
abbrev Iy:=pj::Bl
abbrev awt:=ra::Iy
abbrev awu:=q9::awt
abbrev awv:=q8::awu
abbrev aww:=qZ::awv
abbrev awx:=qY::aww
abbrev awy:=qX::awx
abbrev awz:=qW::awy
abbrev awB:=qV::awz
abbrev awC:=qU::awB
abbrev awD:=qT::awC
abbrev awE:=pi::awD
abbrev awF:=tO::awE
abbrev awG:=qS::awF
abbrev awH:=km::awG
abbrev awI:E:=var 73
abbrev Tg:E:=cmp .lss awI (.int 0)
abbrev tQ:E:=.not Tg
abbrev fV:E:=cmp .eql awI (fn 120 (pr (dc [(pr Ta ax),(pr bM bG),(pr bH cg),(pr ij bV),(pr kb ch),(pr kc ci),(pr kd cj),(pr kf ck),(pr kg cm),(pr kh cn),(pr ki co),(pr kj bO),(pr kl bR)] [aA,d8,aI,dY,dZ,d4,d5,d6,d7,dS,dR,cL,cR] ag 0 (fn 1 (pr ag (.int 1)))) (pr (fn 1 (pr cR (fn 6 (pr (fn 8 (pr dz (.int 2))) (.int 0))))) (fn 9 (pr (fn 28 (pr (pr Ta ax) aA)) (.int 12))))))
abbrev awJ:E:=cmp .lss bM (fn 9 (pr (fn 28 (pr (pr aE ax) aA)) (.int 12)))
abbrev Th:E:=.not (cmp .lss bM (.int 0))
abbrev Ti:E:=cmp .eql bM (fn 120 (pr (dc [(pr aE ax),(pr aG bG),(pr dk cg),(pr dl bV),(pr dm ch),(pr dp ci),(pr dq cj),(pr dr ck),(pr dt cm),(pr du cn),(pr dv co),(pr It bO),(pr Ta bR)] [aA,d8,aI,dY,dZ,d4,d5,d6,d7,dS,dR,cL,cR] ag 0 br) (pr (fn 1 (pr cL bB)) (fn 9 (pr (fn 28 (pr (pr aE ax) aA)) (.int 12))))))
abbrev Tj:E:=fn 262 (pr (fn 1 (pr (fn 28 (pr (pr aE ax) aA)) (fn 6 (pr (fn 8 (pr bM (.int 12))) (.int 3))))) (pr (fn 1 (pr (fn 28 (pr (pr aE ax) aA)) (fn 6 (pr (fn 8 (pr bM (.int 12))) (.int 6))))) (fn 1 (pr (fn 28 (pr (pr aE ax) aA)) (fn 6 (pr (fn 8 (pr bM (.int 12))) (.int 7)))))))
abbrev Bm:=[w4,Ix,rb]
abbrev Tk:=awq::Bm
abbrev Tl:=tP::Tk
abbrev awK:E:=pr aB (pr ag (.ar .add .i64 aG (.int 1)))
abbrev awL:E:=cmp .eql bM (fn 120 (pr (dc [(pr aE ax),(pr aG bG),(pr dk cg),(pr dl bV),(pr dm ch),(pr dp ci),(pr dq cj),(pr dr ck),(pr dt cm),(pr du cn),(pr dv co),(pr It bO),(pr Ta bR)] [aA,d8,aI,dY,dZ,d4,d5,d6,d7,dS,dR,cL,cR] ag 1 br) (pr (fn 1 (pr cL bB)) (fn 9 (pr (fn 28 (pr (pr aE ax) aA)) (.int 12))))))
abbrev IA:=Bf::Is
abbrev IB:=Be::IA
abbrev Tn:=rb::IB
abbrev awN:E:=.not (fn 33 (pr iM (fn 1 (pr cL bB))))
abbrev awO:E:=cmp .eql bH (.mx (.int 0) (fn 7 (pr br (fn 251 (pr aB (pr (fn 1 (pr (fn 28 (pr (pr aE ax) aA)) (fn 6 (pr (fn 8 (pr bM (.int 12))) (.int 1))))) (pr (fn 1 (pr (fn 28 (pr (pr aE ax) aA)) (fn 6 (pr (fn 8 (pr bM (.int 12))) (.int 3))))) (pr (fn 1 (pr (fn 28 (pr (pr aE ax) aA)) (fn 6 (pr (fn 8 (pr bM (.int 12))) (.int 6))))) (fn 1 (pr (fn 28 (pr (pr aE ax) aA)) (fn 6 (pr (fn 8 (pr bM (.int 12))) (.int 7)))))))))))))
abbrev Bn:=pj::awp
abbrev To:=ra::Bn
abbrev IC:=q9::To
abbrev awP:=q8::IC
abbrev awQ:=qZ::awP
abbrev awR:=qY::awQ
abbrev awS:=qX::awR
abbrev awT:=qW::awS
abbrev awU:=qV::awT
abbrev awV:=qU::awU
abbrev awW:=qT::awV
abbrev awX:=pi::awW
abbrev awY:=tO::awX
abbrev awZ:=qS::awY
abbrev aw0:=w4::awZ
abbrev aw1:=awO::aw0
abbrev aw2:E:=cmp .eql bH (fn 254 (pr aB (pr ag (.ar .add .i64 bB (.int 1)))))
def Qc:=fb [Io] TH<|ak fun ρ p0=>by
 have h:E.I ρ dF<0\/¬E.I ρ dF<E.I ρ (fn 9 (pr aB (.int 14))):=by
  simp only[aa]at *;omega
 exact aaR h
def Qd:=fb Ip (.iff (cmp .eql (.ar .and .i64 (fn 1 (pr aB (fn 6 (pr (fn 8 (pr dF (.int 14))) (.int 10))))) bV) bV) TE)<|au fun ρ p0 p1=>by
 have h0:0<=E.I ρ dF:=by
  simp only[aa]at *;omega
 have h1:E.I ρ dF<E.I ρ (fn 9 (pr aB (.int 14))):=by
  simp only[aa]at *;omega
 exact aDJ h0 h1
def Qf:=fb [(.not IP)] TH<|ak fun ρ p0=>by
 have h:E.I ρ dF<0\/¬E.I ρ dF<E.I ρ (fn 9 (pr aB (.int 14))):=by
  simp only[aa]at *;omega
 exact aaR h
def ql:List Fa:=[ey,Qc,Qd,Qf]
theorem aHw:aV Tryz.prog (bz (aeU 39)):=sc ql ([]) acD ([]) (by kernel_rfl) (by kernel_rfl)
def acE:Nl:=nc (r8 aHw) acD
def E6:List Fa:=[ey,Qc,Qd,Qf]
theorem aHx:aV Tryz.prog (bz (aeU 48)):=sc E6 ([]) acE ([]) (by kernel_rfl) (by kernel_rfl)
def acF:Nl:=nc (r8 aHx) acE
def apC:=fb Tb (fn 226 (pr aB (pr ag (pr (.int 0) (fn 9 (pr aB (.int 12)))))))<|aF fun ρ p0 p1 p2 p3=>by
 exact aI6 (by simp only[aa]at *;omega) (by simp only[aa]at *;omega)
def apD:=fb mj (.not (cmp .lss (.wr .i64 (.ar .shr .u64 (.wr .u64 (.ar .add .i64 aM aI)) (.int 1))) (.int 0)))<|aF fun ρ p0 p1 p2 p3=>by
 have b0:0<=E.I ρ aM:=by
  simp only[aa,and_true]at *;omega
 have b1:0<=E.I ρ aI:=by
  simp only[aa,and_true]at *;omega
 have b2:E.I ρ aM<=1000:=by
  simp only[aa,and_true]at *;omega
 have b3:E.I ρ aI<=1000:=by
  simp only[aa,and_true]at *;omega
 have hm:=jZ b0 b1 b2 b3;have m0:0<=E.I ρ (.wr .i64 (.ar .shr .u64 (.wr .u64 (.ar .add .i64 aM aI)) (.int 1))):=by
  rw[hm]
  simp only[aa,and_true]at *;omega
 obtain⟨w,ew,qw⟩:=ab (E.I ρ (fn 1 (pr aB (fn 6 (pr (fn 8 (pr (.wr .i64 (.ar .shr .u64 (.wr .u64 (.ar .add .i64 aM aI)) (.int 1))) (.int 12))) (.int 0)))))-E.I ρ ag)
 obtain⟨w1,ew1,qw1⟩:=ab (E.I ρ (.wr .i64 (.ar .shr .u64 (.wr .u64 (.ar .add .i64 aM aI)) (.int 1)))+1)
 simp only[aa,ae]at *;try simp only[ew,ew1]at *
 omega
def apE:=fb (Bo::Bp::IE) Tt<|ay fun ρ p0 p1 p2=>by
 try simp only[aa,ae]at *
 omega
def apF:=fb Tu Tt<|aF fun ρ p0 p1 p2 p3=>by
 try simp only[aa,ae]at *
 omega
def apG:=fb mj (cmp .lss (.wr .i64 (.ar .shr .u64 (.wr .u64 (.ar .add .i64 aM aI)) (.int 1))) (fn 9 (pr aB (.int 12))))<|aF fun ρ p0 p1 p2 p3=>by
 have b0:0<=E.I ρ aM:=by
  simp only[aa,and_true]at *;omega
 have b1:0<=E.I ρ aI:=by
  simp only[aa,and_true]at *;omega
 have b2:E.I ρ aM<=1000:=by
  simp only[aa,and_true]at *;omega
 have b3:E.I ρ aI<=1000:=by
  simp only[aa,and_true]at *;omega
 have hm:=jZ b0 b1 b2 b3;have m1:E.I ρ (.wr .i64 (.ar .shr .u64 (.wr .u64 (.ar .add .i64 aM aI)) (.int 1)))<E.I ρ (fn 9 (pr aB (.int 12))):=by
  rw[hm]
  simp only[aa,and_true]at *;omega
 simp only[aa,ae]at *;try simp only[ew,ew1]at *
 omega
def apH:=fb (Bo::Tv::IE) (fn 226 (pr aB (pr ag (pr aM aM))))<|ay fun ρ p0 p1 p2=>by
 exact aI3 p1 (by simp only[aa]at *;omega)
def apI:=fb mj (.not (cmp .lss (.ar .add .i64 (.wr .i64 (.ar .shr .u64 (.wr .u64 (.ar .add .i64 aM aI)) (.int 1))) (.int 1)) (.int 0)))<|aF fun ρ p0 p1 p2 p3=>by
 have b0:0<=E.I ρ aM:=by
  simp only[aa,and_true]at *;omega
 have b1:0<=E.I ρ aI:=by
  simp only[aa,and_true]at *;omega
 have b2:E.I ρ aM<=1000:=by
  simp only[aa,and_true]at *;omega
 have b3:E.I ρ aI<=1000:=by
  simp only[aa,and_true]at *;omega
 have hm:=jZ b0 b1 b2 b3;have m0:0<=E.I ρ (.wr .i64 (.ar .shr .u64 (.wr .u64 (.ar .add .i64 aM aI)) (.int 1))):=by
  rw[hm]
  simp only[aa,and_true]at *;omega
 have m1:E.I ρ (.wr .i64 (.ar .shr .u64 (.wr .u64 (.ar .add .i64 aM aI)) (.int 1)))<E.I ρ (fn 9 (pr aB (.int 12))):=by
  rw[hm]
  simp only[aa,and_true]at *;omega
 obtain⟨w,ew,qw⟩:=ab (E.I ρ (fn 1 (pr aB (fn 6 (pr (fn 8 (pr (.wr .i64 (.ar .shr .u64 (.wr .u64 (.ar .add .i64 aM aI)) (.int 1))) (.int 12))) (.int 0)))))-E.I ρ ag)
 obtain⟨w1,ew1,qw1⟩:=ab (E.I ρ (.wr .i64 (.ar .shr .u64 (.wr .u64 (.ar .add .i64 aM aI)) (.int 1)))+1)
 simp only[aa,ae]at *;try simp only[ew,ew1]at *
 omega
def apJ:=fb mj (.not (cmp .lss (.wr .i64 (.ar .shr .u64 (.wr .u64 (.ar .add .i64 aM aI)) (.int 1))) aM))<|aF fun ρ p0 p1 p2 p3=>by
 have b0:0<=E.I ρ aM:=by
  simp only[aa,and_true]at *;omega
 have b1:0<=E.I ρ aI:=by
  simp only[aa,and_true]at *;omega
 have b2:E.I ρ aM<=1000:=by
  simp only[aa,and_true]at *;omega
 have b3:E.I ρ aI<=1000:=by
  simp only[aa,and_true]at *;omega
 have:=jZ b0 b1 b2 b3
 obtain⟨w,ew,qw⟩:=ab (E.I ρ (fn 1 (pr aB (fn 6 (pr (fn 8 (pr (.wr .i64 (.ar .shr .u64 (.wr .u64 (.ar .add .i64 aM aI)) (.int 1))) (.int 12))) (.int 0)))))-E.I ρ ag)
 obtain⟨w1,ew1,qw1⟩:=ab (E.I ρ (.wr .i64 (.ar .shr .u64 (.wr .u64 (.ar .add .i64 aM aI)) (.int 1)))+1)
 simp only[aa,ae]at *;try simp only[ew,ew1]at *
 omega
def apK:=fb [S3,Bo,Bp,Ts,ID,Iq,Ir] (.iff (cmp .eql (.ar .sub .i64 (fn 1 (pr aB (fn 6 (pr (fn 8 (pr aM (.int 12))) (.int 0))))) ag) (.int 0)) Tw)<|eZ fun ρ p0 p1 p2 p3 p4 p5 p6=>by
 have:=Lo p0 (i:=aM) (by simp only[aa]at *;omega) (by simp only[aa]at *;omega)
 obtain⟨w,ew,qw⟩:=ab (E.I ρ (fn 1 (pr aB (fn 6 (pr (fn 8 (pr aM (.int 12))) (.int 0)))))-E.I ρ ag)
 simp only[aa,ae]at *;try simp only[ew]at *
 omega
def apL:=fb Tu (.iff ml Tw)<|aF fun ρ p0 p1 p2 p3=>by
 rw[lY]
 simp only[aa,Bool.false_eq_true]at *;simp_all;intro h;omega
def apM:=fb mj (.not (cmp .lss aI (.ar .add .i64 (.wr .i64 (.ar .shr .u64 (.wr .u64 (.ar .add .i64 aM aI)) (.int 1))) (.int 1))))<|aF fun ρ p0 p1 p2 p3=>by
 have b0:0<=E.I ρ aM:=by
  simp only[aa,and_true]at *;omega
 have b1:0<=E.I ρ aI:=by
  simp only[aa,and_true]at *;omega
 have b2:E.I ρ aM<=1000:=by
  simp only[aa,and_true]at *;omega
 have b3:E.I ρ aI<=1000:=by
  simp only[aa,and_true]at *;omega
 have hm:=jZ b0 b1 b2 b3;have m0:0<=E.I ρ (.wr .i64 (.ar .shr .u64 (.wr .u64 (.ar .add .i64 aM aI)) (.int 1))):=by
  rw[hm]
  simp only[aa,and_true]at *;omega
 have m1:E.I ρ (.wr .i64 (.ar .shr .u64 (.wr .u64 (.ar .add .i64 aM aI)) (.int 1)))<E.I ρ (fn 9 (pr aB (.int 12))):=by
  rw[hm]
  simp only[aa,and_true]at *;omega
 obtain⟨w,ew,qw⟩:=ab (E.I ρ (fn 1 (pr aB (fn 6 (pr (fn 8 (pr (.wr .i64 (.ar .shr .u64 (.wr .u64 (.ar .add .i64 aM aI)) (.int 1))) (.int 12))) (.int 0)))))-E.I ρ ag)
 obtain⟨w1,ew1,qw1⟩:=ab (E.I ρ (.wr .i64 (.ar .shr .u64 (.wr .u64 (.ar .add .i64 aM aI)) (.int 1)))+1)
 simp only[aa,ae]at *;try simp only[ew,ew1]at *
 omega
def apN:=fb mj (.not (cmp .lss (fn 9 (pr aB (.int 12))) (.wr .i64 (.ar .shr .u64 (.wr .u64 (.ar .add .i64 aM aI)) (.int 1)))))<|aF fun ρ p0 p1 p2 p3=>by
 have b0:0<=E.I ρ aM:=by
  simp only[aa,and_true]at *;omega
 have b1:0<=E.I ρ aI:=by
  simp only[aa,and_true]at *;omega
 have b2:E.I ρ aM<=1000:=by
  simp only[aa,and_true]at *;omega
 have b3:E.I ρ aI<=1000:=by
  simp only[aa,and_true]at *;omega
 have hm:=jZ b0 b1 b2 b3;have m1:E.I ρ (.wr .i64 (.ar .shr .u64 (.wr .u64 (.ar .add .i64 aM aI)) (.int 1)))<E.I ρ (fn 9 (pr aB (.int 12))):=by
  rw[hm]
  simp only[aa,and_true]at *;omega
 obtain⟨w,ew,qw⟩:=ab (E.I ρ (fn 1 (pr aB (fn 6 (pr (fn 8 (pr (.wr .i64 (.ar .shr .u64 (.wr .u64 (.ar .add .i64 aM aI)) (.int 1))) (.int 12))) (.int 0)))))-E.I ρ ag)
 obtain⟨w1,ew1,qw1⟩:=ab (E.I ρ (.wr .i64 (.ar .shr .u64 (.wr .u64 (.ar .add .i64 aM aI)) (.int 1)))+1)
 simp only[aa,ae]at *;try simp only[ew,ew1]at *
 omega
def apO:=fb (Bj::Tx::Ty) (fn 226 (pr aB (pr ag (pr (.ar .add .i64 (.wr .i64 (.ar .shr .u64 (.wr .u64 (.ar .add .i64 aM aI)) (.int 1))) (.int 1)) aI))))<|fB fun ρ p0 p1 p2 p3 p4 p5 p6 p7 p8=>by
 have b0:0<=E.I ρ aM:=by
  simp only[aa,and_true]at *;omega
 have b1:0<=E.I ρ aI:=by
  simp only[aa,and_true]at *;omega
 have b2:E.I ρ aM<=1000:=by
  simp only[aa,and_true]at *;omega
 have b3:E.I ρ aI<=1000:=by
  simp only[aa,and_true]at *;omega
 have hm:=jZ b0 b1 b2 b3;have m0:0<=E.I ρ (.wr .i64 (.ar .shr .u64 (.wr .u64 (.ar .add .i64 aM aI)) (.int 1))):=by
  rw[hm]
  simp only[aa,and_true]at *;omega
 have m1:E.I ρ (.wr .i64 (.ar .shr .u64 (.wr .u64 (.ar .add .i64 aM aI)) (.int 1)))<E.I ρ (fn 9 (pr aB (.int 12))):=by
  rw[hm]
  simp only[aa,and_true]at *;omega
 have:=Lo p7 m0 m1
 have hv:E.I ρ (fn 1 (pr aB (fn 6 (pr (fn 8 (pr (.wr .i64 (.ar .shr .u64 (.wr .u64 (.ar .add .i64 aM aI)) (.int 1))) (.int 12))) (.int 0)))))<E.I ρ ag:=by
  obtain⟨w,ew,qw⟩:=ab (E.I ρ (fn 1 (pr aB (fn 6 (pr (fn 8 (pr (.wr .i64 (.ar .shr .u64 (.wr .u64 (.ar .add .i64 aM aI)) (.int 1))) (.int 12))) (.int 0)))))-E.I ρ ag)
  obtain⟨w1,ew1,qw1⟩:=ab (E.I ρ (.wr .i64 (.ar .shr .u64 (.wr .u64 (.ar .add .i64 aM aI)) (.int 1)))+1)
  simp only[aa,ae]at *;try simp only[ew,ew1]at *
  omega
 have hk:E.I ρ (.ar .add .i64 (.wr .i64 (.ar .shr .u64 (.wr .u64 (.ar .add .i64 aM aI)) (.int 1))) (.int 1))=E.I ρ (.wr .i64 (.ar .shr .u64 (.wr .u64 (.ar .add .i64 aM aI)) (.int 1)))+1:=by
  obtain⟨w,ew,qw⟩:=ab (E.I ρ (fn 1 (pr aB (fn 6 (pr (fn 8 (pr (.wr .i64 (.ar .shr .u64 (.wr .u64 (.ar .add .i64 aM aI)) (.int 1))) (.int 12))) (.int 0)))))-E.I ρ ag)
  obtain⟨w1,ew1,qw1⟩:=ab (E.I ρ (.wr .i64 (.ar .shr .u64 (.wr .u64 (.ar .add .i64 aM aI)) (.int 1)))+1)
  simp only[aa,ae]at *;try simp only[ew,ew1]at *
  omega
 exact aI4 p7 p2 m0 m1 hv hk
def apP:=fb (Bj::(.not Tx)::Ty) (fn 226 (pr aB (pr ag (pr aM (.wr .i64 (.ar .shr .u64 (.wr .u64 (.ar .add .i64 aM aI)) (.int 1)))))))<|fB fun ρ p0 p1 p2 p3 p4 p5 p6 p7 p8=>by
 have b0:0<=E.I ρ aM:=by
  simp only[aa,and_true]at *;omega
 have b1:0<=E.I ρ aI:=by
  simp only[aa,and_true]at *;omega
 have b2:E.I ρ aM<=1000:=by
  simp only[aa,and_true]at *;omega
 have b3:E.I ρ aI<=1000:=by
  simp only[aa,and_true]at *;omega
 have hm:=jZ b0 b1 b2 b3;have m0:0<=E.I ρ (.wr .i64 (.ar .shr .u64 (.wr .u64 (.ar .add .i64 aM aI)) (.int 1))):=by
  rw[hm]
  simp only[aa,and_true]at *;omega
 have m1:E.I ρ (.wr .i64 (.ar .shr .u64 (.wr .u64 (.ar .add .i64 aM aI)) (.int 1)))<E.I ρ (fn 9 (pr aB (.int 12))):=by
  rw[hm]
  simp only[aa,and_true]at *;omega
 have:=Lo p7 m0 m1
 have hv:¬E.I ρ (fn 1 (pr aB (fn 6 (pr (fn 8 (pr (.wr .i64 (.ar .shr .u64 (.wr .u64 (.ar .add .i64 aM aI)) (.int 1))) (.int 12))) (.int 0)))))<E.I ρ ag:=by
  obtain⟨w,ew,qw⟩:=ab (E.I ρ (fn 1 (pr aB (fn 6 (pr (fn 8 (pr (.wr .i64 (.ar .shr .u64 (.wr .u64 (.ar .add .i64 aM aI)) (.int 1))) (.int 12))) (.int 0)))))-E.I ρ ag)
  obtain⟨w1,ew1,qw1⟩:=ab (E.I ρ (.wr .i64 (.ar .shr .u64 (.wr .u64 (.ar .add .i64 aM aI)) (.int 1)))+1)
  simp only[aa,ae]at *;try simp only[ew,ew1]at *
  omega
 exact aI5 p7 p2 m0 m1 hv
def apQ:=fb mj (cmp .lss (fn 7 (pr aI (.ar .add .i64 (.wr .i64 (.ar .shr .u64 (.wr .u64 (.ar .add .i64 aM aI)) (.int 1))) (.int 1)))) (fn 7 (pr aI aM)))<|aF fun ρ p0 p1 p2 p3=>by
 have b0:0<=E.I ρ aM:=by
  simp only[aa,and_true]at *;omega
 have b1:0<=E.I ρ aI:=by
  simp only[aa,and_true]at *;omega
 have b2:E.I ρ aM<=1000:=by
  simp only[aa,and_true]at *;omega
 have b3:E.I ρ aI<=1000:=by
  simp only[aa,and_true]at *;omega
 have hm:=jZ b0 b1 b2 b3;have m0:0<=E.I ρ (.wr .i64 (.ar .shr .u64 (.wr .u64 (.ar .add .i64 aM aI)) (.int 1))):=by
  rw[hm]
  simp only[aa,and_true]at *;omega
 have m1:E.I ρ (.wr .i64 (.ar .shr .u64 (.wr .u64 (.ar .add .i64 aM aI)) (.int 1)))<E.I ρ (fn 9 (pr aB (.int 12))):=by
  rw[hm]
  simp only[aa,and_true]at *;omega
 obtain⟨w,ew,qw⟩:=ab (E.I ρ (fn 1 (pr aB (fn 6 (pr (fn 8 (pr (.wr .i64 (.ar .shr .u64 (.wr .u64 (.ar .add .i64 aM aI)) (.int 1))) (.int 12))) (.int 0)))))-E.I ρ ag)
 obtain⟨w1,ew1,qw1⟩:=ab (E.I ρ (.wr .i64 (.ar .shr .u64 (.wr .u64 (.ar .add .i64 aM aI)) (.int 1)))+1)
 simp only[aa,ae]at *;try simp only[ew,ew1]at *
 omega
def apR:=fb mj (cmp .lss (fn 7 (pr (.wr .i64 (.ar .shr .u64 (.wr .u64 (.ar .add .i64 aM aI)) (.int 1))) aM)) (fn 7 (pr aI aM)))<|aF fun ρ p0 p1 p2 p3=>by
 have b0:0<=E.I ρ aM:=by
  simp only[aa,and_true]at *;omega
 have b1:0<=E.I ρ aI:=by
  simp only[aa,and_true]at *;omega
 have b2:E.I ρ aM<=1000:=by
  simp only[aa,and_true]at *;omega
 have b3:E.I ρ aI<=1000:=by
  simp only[aa,and_true]at *;omega
 have:=jZ b0 b1 b2 b3
 obtain⟨w,ew,qw⟩:=ab (E.I ρ (fn 1 (pr aB (fn 6 (pr (fn 8 (pr (.wr .i64 (.ar .shr .u64 (.wr .u64 (.ar .add .i64 aM aI)) (.int 1))) (.int 12))) (.int 0)))))-E.I ρ ag)
 obtain⟨w1,ew1,qw1⟩:=ab (E.I ρ (.wr .i64 (.ar .shr .u64 (.wr .u64 (.ar .add .i64 aM aI)) (.int 1)))+1)
 simp only[aa,ae]at *;try simp only[ew,ew1]at *
 omega
def apS:=fb mj (.not (cmp .lss (fn 7 (pr aI (.ar .add .i64 (.wr .i64 (.ar .shr .u64 (.wr .u64 (.ar .add .i64 aM aI)) (.int 1))) (.int 1)))) (.int 0)))<|aF fun ρ p0 p1 p2 p3=>by
 have b0:0<=E.I ρ aM:=by
  simp only[aa,and_true]at *;omega
 have b1:0<=E.I ρ aI:=by
  simp only[aa,and_true]at *;omega
 have b2:E.I ρ aM<=1000:=by
  simp only[aa,and_true]at *;omega
 have b3:E.I ρ aI<=1000:=by
  simp only[aa,and_true]at *;omega
 have hm:=jZ b0 b1 b2 b3;have m0:0<=E.I ρ (.wr .i64 (.ar .shr .u64 (.wr .u64 (.ar .add .i64 aM aI)) (.int 1))):=by
  rw[hm]
  simp only[aa,and_true]at *;omega
 have m1:E.I ρ (.wr .i64 (.ar .shr .u64 (.wr .u64 (.ar .add .i64 aM aI)) (.int 1)))<E.I ρ (fn 9 (pr aB (.int 12))):=by
  rw[hm]
  simp only[aa,and_true]at *;omega
 obtain⟨w,ew,qw⟩:=ab (E.I ρ (fn 1 (pr aB (fn 6 (pr (fn 8 (pr (.wr .i64 (.ar .shr .u64 (.wr .u64 (.ar .add .i64 aM aI)) (.int 1))) (.int 12))) (.int 0)))))-E.I ρ ag)
 obtain⟨w1,ew1,qw1⟩:=ab (E.I ρ (.wr .i64 (.ar .shr .u64 (.wr .u64 (.ar .add .i64 aM aI)) (.int 1)))+1)
 simp only[aa,ae]at *;try simp only[ew,ew1]at *
 omega
def apT:=fb mj (.not (cmp .lss (fn 7 (pr (.wr .i64 (.ar .shr .u64 (.wr .u64 (.ar .add .i64 aM aI)) (.int 1))) aM)) (.int 0)))<|aF fun ρ p0 p1 p2 p3=>by
 have b0:0<=E.I ρ aM:=by
  simp only[aa,and_true]at *;omega
 have b1:0<=E.I ρ aI:=by
  simp only[aa,and_true]at *;omega
 have b2:E.I ρ aM<=1000:=by
  simp only[aa,and_true]at *;omega
 have b3:E.I ρ aI<=1000:=by
  simp only[aa,and_true]at *;omega
 have:=jZ b0 b1 b2 b3
 obtain⟨w,ew,qw⟩:=ab (E.I ρ (fn 1 (pr aB (fn 6 (pr (fn 8 (pr (.wr .i64 (.ar .shr .u64 (.wr .u64 (.ar .add .i64 aM aI)) (.int 1))) (.int 12))) (.int 0)))))-E.I ρ ag)
 obtain⟨w1,ew1,qw1⟩:=ab (E.I ρ (.wr .i64 (.ar .shr .u64 (.wr .u64 (.ar .add .i64 aM aI)) (.int 1)))+1)
 simp only[aa,ae]at *;try simp only[ew,ew1]at *
 omega
def p46:List Fa:=[ey,apC,apD,apE,apF,apG,apH,apI,apJ,apK,apL,apM,apN,apO,apP,apQ,apR,apS,apT]
theorem aHy:aV Tryz.prog (bz (aGh)):=sc p46 (aA3) acF ([]) (by kernel_rfl) (by kernel_rfl)
def acG:Nl:=nc aHy acF
def apU:=fb [tR,(.iff dF tR)] dF<|au fun ρ p0 p1=>by
 simp only[aa]at *;grind
def apV:=fb ((.iff ax (.and Tz (cmp .eql (fn 1 (pr (fn 1 (pr aB (.int 0))) (fn 6 (pr (fn 8 (pr aA (.int 12))) (.int 0))))) ag)))::TA::IF::IH) ax<|bl fun ρ p0 p1 p2 p3 p4=>by
 have hx:=p3;simp only[aa]at hx;have h0:0<=E.I ρ aA:=by
  simp only[aa,and_true]at *;omega
 have:=NL p4 p2 h0 hx
 simp only[aa]at *;grind
def apW:=fb [tR] (fn 228 (fn 1 (pr aB (.int 0))))<|ak fun ρ p0=>by
 exact afy p0
def apX:=fb IH Ir<|au fun ρ p0 p1=>by
 have hx:=p0;simp only[aa]at hx
 have:=afi p1 hx
 simp only[aa]at *;omega
def apY:=fb IH Iq<|au fun ρ p0 p1=>by
 have hx:=p0;simp only[aa]at hx
 have:=afi p1 hx
 simp only[aa]at *;omega
def apZ:=fb (IG::tR::IF::(.not (cmp .lss (fn 9 (pr (fn 1 (pr aB (.int 0))) (.int 12))) aA))::TB) Tz<|bl fun ρ p0 p1 p2 p3 p4=>by
 have hx:=p0;simp only[aa]at hx;have h0:0<=E.I ρ aA:=by
  simp only[aa,and_true]at *;omega
 have:=NL p1 p2 h0 hx
 simp only[aa]at *;grind
def ap0:=fb (IG::tR::IF::TB) (cmp .eql aA (fn 120 (pr aB (pr ag (fn 9 (pr (fn 1 (pr aB (.int 0))) (.int 12)))))))<|aF fun ρ p0 p1 p2 p3=>by
 have hx:=p0;simp only[aa]at hx;have h0:0<=E.I ρ aA:=by
  simp only[aa,and_true]at *;omega
 have:=NL p1 p2 h0 hx
 simp only[aa]at *;grind
def p47:List Fa:=[ey,apU,apV,AJ,apW,apX,apY,apZ,ap0]
theorem aHz:aV Tryz.prog (bz (aGr)):=sc p47 ([]) acG ([]) (by kernel_rfl) (by kernel_rfl)
def acH:Nl:=nc (abv (mss:=[sL,[]]) aHz) acG
def ap1:=fb [rc,Bq,II,(.not TC)] (cmp .eql (fn 252 (pr aB ag)) (.int 99))<|aF fun ρ p0 p1 p2 p3=>by
 have:=@tk (max 0 (E.I ρ aB)+max 0 (E.I ρ ag)) (by omega) (by have q:=p0;rw[fF]at q;omega)
 try simp only[aa,ae,fF,gi,fI]at *
 obtain⟨a3,ea3,qa3⟩:=ab ((max (0) (E.I ρ aB))+(max (0) (E.I ρ ag)))
 try simp only[ea3]at *
 omega
def ap2:=fb [rc,Bq,II,TC] w9<|aF fun ρ p0 p1 p2 p3=>by
 have:=@tk (max 0 (E.I ρ aB)+max 0 (E.I ρ ag)) (by omega) (by have q:=p0;rw[fF]at q;omega)
 try simp only[aa,ae,fF,gi,fI]at *
 obtain⟨a3,ea3,qa3⟩:=ab ((max (0) (E.I ρ aB))+(max (0) (E.I ρ ag)))
 try simp only[ea3]at *
 omega
def ap3:=fb [rc,Bq,(.not II)] w9<|ay fun ρ p0 p1 p2=>by
 have:=@tk (max 0 (E.I ρ aB)+max 0 (E.I ρ ag)) (by omega) (by have q:=p0;rw[fF]at q;omega)
 try simp only[aa,ae,fF,gi,fI]at *
 obtain⟨a3,ea3,qa3⟩:=ab ((max (0) (E.I ρ aB))+(max (0) (E.I ρ ag)))
 try simp only[ea3]at *
 omega
def ap4:=fb [rc,Br,TD,(.not TF)] (cmp .eql (fn 252 (pr aB ag)) (.int 0))<|aF fun ρ p0 p1 p2 p3=>by
 have:=@tk (max 0 (E.I ρ aB)+max 0 (E.I ρ ag)) (by omega) (by have q:=p0;rw[fF]at q;omega)
 try simp only[aa,ae,fF,gi,fI]at *
 obtain⟨a3,ea3,qa3⟩:=ab ((max (0) (E.I ρ aB))+(max (0) (E.I ρ ag)))
 try simp only[ea3]at *
 omega
def ap5:=fb [rc,Br,TD,TF] w9<|aF fun ρ p0 p1 p2 p3=>by
 have:=@tk (max 0 (E.I ρ aB)+max 0 (E.I ρ ag)) (by omega) (by have q:=p0;rw[fF]at q;omega)
 try simp only[aa,ae,fF,gi,fI]at *
 obtain⟨a3,ea3,qa3⟩:=ab ((max (0) (E.I ρ aB))+(max (0) (E.I ρ ag)))
 try simp only[ea3]at *
 omega
def ap6:=fb [rc,Br] w9<|au fun ρ p0 p1=>by
 have:=@tk (max 0 (E.I ρ aB)+max 0 (E.I ρ ag)) (by omega) (by have q:=p0;rw[fF]at q;omega)
 try simp only[aa,ae,fF,gi,fI]at *
 obtain⟨a3,ea3,qa3⟩:=ab ((max (0) (E.I ρ aB))+(max (0) (E.I ρ ag)))
 try simp only[ea3]at *
 omega
def ap7:=fb [rc,(.not Bq),(.not Br)] w9<|ay fun ρ p0 p1 p2=>by
 have:=@tk (max 0 (E.I ρ aB)+max 0 (E.I ρ ag)) (by omega) (by have q:=p0;rw[fF]at q;omega)
 try simp only[aa,ae,fF,gi,fI]at *
 obtain⟨a3,ea3,qa3⟩:=ab ((max (0) (E.I ρ aB))+(max (0) (E.I ρ ag)))
 try simp only[ea3]at *
 omega
def p48:List Fa:=[ey,ap1,ap2,ap3,ap4,ap5,ap6,ap7]
theorem aHA:aV Tryz.prog (bz (aeS 101 aFl)):=sc p48 ([]) acH ([]) (by kernel_rfl) (by kernel_rfl)
def acJ:Nl:=nc (r8 aHA) acH
def ap8:=fb [tS] (fn 262 (pr (.int 0) IJ))<|ak fun ρ p0=>by
 rw[fF]at p0 ⊢
 have z:E.I ρ (.int 0)=0:=rfl;omega
def ap9:=fb (tS::(fn 261 aB)::Ip) (fn 262 (pr (fn 1 (pr aB (fn 6 (pr (fn 8 (pr dF (.int 14))) (.int 8))))) IJ))<|aF fun ρ p0 p1 p2 p3=>by
 rw[fF]at p0 ⊢
 have z:E.I ρ (.int 0)=0:=rfl
 have:=@aJo _ dF _ p1 (by simp only[aa]at *;omega) (by simp only[aa]at *;omega)
 omega
def aqa:=fb [tS] (fn 262 (pr ax IJ))<|ak fun ρ p0=>by
 rw[fF]at p0 ⊢
 have z:E.I ρ (.int 0)=0:=rfl;omega
def aqb:=fb [tS] (fn 262 (pr (fn 252 (pr (.int 0) bG)) IK))<|ak fun ρ p0=>by
 rw[fF]at p0 ⊢
 have z:E.I ρ (.int 0)=0:=rfl
 have:=@NM ρ (pr (.int 0) bG)
 omega
def aqc:=fb [tS] (fn 262 (pr (fn 252 (pr (fn 1 (pr aB (fn 6 (pr (fn 8 (pr dF (.int 14))) (.int 8))))) bG)) IK))<|ak fun ρ p0=>by
 rw[fF]at p0 ⊢
 have z:E.I ρ (.int 0)=0:=rfl
 have:=@NM ρ (pr (fn 1 (pr aB (fn 6 (pr (fn 8 (pr dF (.int 14))) (.int 8))))) bG)
 omega
def aqd:=fb [tS] (fn 262 (pr (fn 252 (pr ax bG)) IK))<|ak fun ρ p0=>by
 rw[fF]at p0 ⊢
 have z:E.I ρ (.int 0)=0:=rfl
 have:=@NM ρ (pr ax bG)
 omega
def aqe:=fb [(.not Bt),(.not IP)] TG<|au fun ρ p0 p1=>by
 rw[cV,ww,gi,gi]
 have hc:eO (E.L ρ aB) (E.I ρ dF) 8=0:=YY (by simp only[aa]at *;omega)
 rw[if_neg (by simp only[aa]at *;omega),hc]
 rfl
def aqf:=fb ((.not Bt)::Ip) (cmp .eql (fn 252 (pr (fn 252 (pr (fn 1 (pr aB (fn 6 (pr (fn 8 (pr dF (.int 14))) (.int 8))))) bG)) aM)) (fn 251 (pr aB (pr dF (pr ax (pr bG aM))))))<|ay fun ρ p0 p1 p2=>by
 rw[cV,ww,gi,gi]
 rw[if_neg (by simp only[aa]at *;omega),YX (by simp only[aa]at *;omega) (by simp only[aa]at *;omega)]
def Qh:=fb [(.not Bt),Io] TG<|au fun ρ p0 p1=>by
 rw[cV,ww,gi,gi]
 have hc:eO (E.L ρ aB) (E.I ρ dF) 8=0:=aCm (by simp only[aa]at *;omega)
 rw[if_neg (by simp only[aa]at *;omega),hc]
 rfl
def Qi:=fb [Bt] (cmp .eql (fn 252 (pr (fn 252 (pr ax bG)) aM)) (fn 251 (pr aB (pr dF (pr ax (pr bG aM))))))<|ak fun ρ p0=>by
 rw[cV,ww,gi,gi]
 rw[if_pos (by simp only[aa]at *;omega)]
def p49:List Fa:=[ey,ap8,ap9,aqa,aqb,aqc,aqd,aqe,aqf,Qh,Qi]
theorem aHB:aV Tryz.prog (bz (aeZ 61 adH)):=sc p49 ([]) acJ ([]) (by kernel_rfl) (by kernel_rfl)
def acK:Nl:=nc (r8 aHB) acJ
def aqg:=fb [IL] (.iff TI TJ)<|ak fun ρ p0=>by
 simp only[lY,cZ,gh]at *;grind
def aqh:=fb [(.not IL)] (.iff ml TJ)<|ak fun ρ p0=>by
 rw[lY,cZ]
 rw[gh]at p0
 exact⟨fun h=>absurd (show false=true from h) (by decide),fun h=>absurd h.1 p0⟩
def p50:List Fa:=[ey,aqg,aqh]
theorem aHD:aV Tryz.prog (bz (aGM)):=sc p50 ([]) acK ([]) (by kernel_rfl) (by kernel_rfl)
def acL:Nl:=nc (r8 aHD) acK
def aqi:=fb [Bu,Bv,Bw,Bx,By,IM,(.not TK)] (cmp .eql (.mx (.int 0) (.mn (.int 9223372036854775807) dF)) (.mx (.int 0) (fn 7 (pr aB ag))))<|eZ fun ρ p0 p1 p2 p3 p4 p5 p6=>by
 try simp only[aa,ae]at *
 obtain⟨a3,ea3,qa3⟩:=ab ((0)-(E.I ρ ag))
 try simp only[ea3]at *
 obtain⟨a4,ea4,qa4⟩:=ab ((E.I ρ aB)+a3)
 try simp only[ea4]at *
 omega
def aqj:=fb [Bu,Bv,Bw,Bx,By,IM,TK] IN<|eZ fun ρ p0 p1 p2 p3 p4 p5 p6=>by
 try simp only[aa,ae]at *
 obtain⟨a3,ea3,qa3⟩:=ab ((0)-(E.I ρ ag))
 try simp only[ea3]at *
 obtain⟨a4,ea4,qa4⟩:=ab ((E.I ρ aB)+a3)
 try simp only[ea4]at *
 omega
def aqk:=fb [Bu,Bv,Bw,Bx,By,(.not IM)] IN<|cz fun ρ p0 p1 p2 p3 p4 p5=>by
 try simp only[aa,ae]at *
 obtain⟨a3,ea3,qa3⟩:=ab ((0)-(E.I ρ ag))
 try simp only[ea3]at *
 obtain⟨a4,ea4,qa4⟩:=ab ((E.I ρ aB)+a3)
 try simp only[ea4]at *
 omega
def aql:=fb [Bu,Bv,Bw,Bx,(.not (cmp .lss aB (.int 0))),(.not By)] IN<|cz fun ρ p0 p1 p2 p3 p4 p5=>by
 try simp only[aa,ae]at *
 obtain⟨a3,ea3,qa3⟩:=ab ((0)-(E.I ρ ag))
 try simp only[ea3]at *
 obtain⟨a4,ea4,qa4⟩:=ab ((E.I ρ aB)+a3)
 try simp only[ea4]at *
 omega
def p51:List Fa:=[ey,aqi,aqj,aqk,aql]
theorem aHE:aV Tryz.prog (bz (aGP)):=sc p51 ([]) acL ([]) (by kernel_rfl) (by kernel_rfl)
def acM:Nl:=nc aHE acL
def aqm:=fb [(.not dF),(.iff dF gm)] (.not gm)<|au fun ρ p0 p1=>by
 have h:=p1;have g:=p0
 rw[lY]at h
 rw[gh]at g ⊢
 exact fun x=>g (h.2 x)
def aqn:=fb [(.iff dF gm),dF] gm<|au fun ρ p0 p1=>by
 have hv:=p0
 rw[lY]at hv
 have hv:=hv.1 p1;exact hv
def aqo:=fa ((fn 253 (pr (fn 10 (.int 0)) (pr aB (pr ag (.int 0))))))<|fun ρ=>by
 exact aJb
def aqp:=fb Bz (fn 116 (dc [(pr br ax),(pr bB bG),(pr aE cg),(pr aG bV),(pr dk ch),(pr dl ci),(pr dm cj),(pr dp ck),(pr dq cm),(pr dr cn),(pr dt co),(pr du bO),(pr dv bR)] [aA,d8,aI,dY,dZ,d4,d5,d6,d7,dS,dR,cL,cR] ag 0 (fn 1 (pr ag (.int 1)))))<|au fun ρ p0 p1=>by
 exact Gi (X:=var 1) (v:=(fn 1 (pr ag (.int 1)))) [(pr br ax),(pr bB bG),(pr aE cg),(pr aG bV),(pr dk ch),(pr dl ci),(pr dm cj),(pr dp ck),(pr dq cm),(pr dr cn),(pr dt co),(pr du bO),(pr dv bR)] 0 p1 p0
def aqq:=fb [(.not Be),Bf,S2,(.not (cmp .lss bR dz))] w4<|aF fun ρ p0 p1 p2 p3=>by
 have hi:E.I ρ (fn 9 (pr (fn 1 (pr ag (.int 32))) (.int 2)))=E.I ρ dz:=by
  simp only[aa]at *;omega
 exact aI9 p2 hi
def aqr:=fb [gm,(.not w5)] (cmp .eql (.ar .sub .i64 (.int 1) (fn 1 (pr ag (.int 34)))) (.int 1))<|au fun ρ p0 p1=>by
 have:=jC p0
 obtain⟨w,ew,qw⟩:=ab (1-E.I ρ (fn 1 (pr ag (.int 34))))
 simp only[aa,ae,ew]at *;omega
def aqs:=fb Bg (fn 117 (dc [(pr br ax),(pr bB bG),(pr aE cg),(pr aG bV),(pr dk ch),(pr dl ci),(pr dm cj),(pr dp ck),(pr dq cm),(pr dr cn),(pr dt co),(pr du bO),(pr dv bR)] [aA,d8,aI,dY,dZ,d4,d5,d6,d7,dS,dR,cL,cR] ag 0 (fn 1 (pr ag (.int 1)))))<|mP fun ρ p0 p1 p2 p3 p4 p5 p6 p7 p8 p9 am av az aD=>by
 exact @Gj _ (fn 1 (pr ag (.int 1))) _ _ _ _ _ _ _ _ _ _ _ _ _ _ ([(pr br ax),(pr bB bG),(pr aE cg),(pr aG bV),(pr dk ch),(pr dl ci),(pr dm cj),(pr dp ck),(pr dq cm),(pr dr cn),(pr dt co),(pr du bO),(pr dv bR)]) 0 (by decide) ⟨az,av,am,p9,p8,p7,p6,p5,p4,p3,p2,p1,p0⟩ aD
def aqt:=fb [gm,w5] S4<|au fun ρ p0 p1=>by
 have:=jC p0
 obtain⟨w,ew,qw⟩:=ab (1-E.I ρ (fn 1 (pr ag (.int 34))))
 simp only[aa,ae,ew]at *;omega
def aqu:=fb S5 (fn 115 (dc [(pr br ax),(pr bB bG),(pr aE cg),(pr aG bV),(pr dk ch),(pr dl ci),(pr dm cj),(pr dp ck),(pr dq cm),(pr dr cn),(pr dt co),(pr du bO),(pr dv bR)] [aA,d8,aI,dY,dZ,d4,d5,d6,d7,dS,dR,cL,cR] ag 0 (fn 1 (pr ag (.int 1)))))<|mP fun ρ p0 p1 p2 p3 p4 p5 p6 p7 p8 p9 am av az aD=>by
 have lf:=kM aD;exact @Gh _ _ _ _ _ _ _ _ _ _ _ _ _ _ _ _ ([(pr br ax),(pr bB bG),(pr aE cg),(pr aG bV),(pr dk ch),(pr dl ci),(pr dm cj),(pr dp ck),(pr dq cm),(pr dr cn),(pr dt co),(pr du bO),(pr dv bR)]) 0 (by decide) ⟨az,av,am,p9,p8,p7,p6,p5,p4,p3,p2,p1,p0⟩ aD lf.1.1 lf.1.2
def aqv:=fb [w5,gm] (cmp .eql (fn 1 (pr ag (.int 1))) (fn 254 (pr aB (pr ag (.int 0)))))<|au fun ρ p0 p1=>by
 have:=jC p1
 have h1:E.I ρ (fn 1 (pr ag (.int 34)))=1:=by
  obtain⟨w,ew,qw⟩:=ab (1-E.I ρ (fn 1 (pr ag (.int 34))))
  simp only[aa,ae,ew]at *;omega
 have:=@afA _ _ aB h1
 simp only[aa];omega
def aqw:=fb [gm,(.not w5)] S6<|au fun ρ p0 p1=>by
 have:=jC p0
 obtain⟨w,ew,qw⟩:=ab (1-E.I ρ (fn 1 (pr ag (.int 34))))
 simp only[aa,ae,ew]at *;omega
def aqx:=fb S8 (.not (cmp .lss (fn 120 (pr (dc [(pr br ax),(pr bB bG),(pr aE cg),(pr aG bV),(pr dk ch),(pr dl ci),(pr dm cj),(pr dp ck),(pr dq cm),(pr dr cn),(pr dt co),(pr du bO),(pr dv bR)] [aA,d8,aI,dY,dZ,d4,d5,d6,d7,dS,dR,cL,cR] ag 0 (fn 1 (pr ag (.int 1)))) (pr (fn 1 (pr cR (fn 6 (pr (fn 8 (pr dz (.int 2))) (.int 1))))) (fn 9 (pr (fn 28 (pr (pr br ax) aA)) (.int 12)))))) (.int 0)))<|lP fun ρ p0 p1 p2 p3 p4 p5 p6 p7 p8 p9 am av az aD aJ aL aU=>by
 have h0:0<=E.I ρ dz:=by
  simp only[aa]at *;omega
 have h1:E.I ρ dz<E.I ρ (fn 9 (pr (fn 1 (pr ag (.int 32))) (.int 2))):=by
  simp only[aa]at *;omega
 have g:=aBO aL p2 h0 h1;exact @aKl _ _ (fn 1 (pr ag (.int 1))) _ _ _ _ _ _ _ _ _ _ _ _ _ _ _ ([(pr br ax),(pr bB bG),(pr aE cg),(pr aG bV),(pr dk ch),(pr dl ci),(pr dm cj),(pr dp ck),(pr dq cm),(pr dr cn),(pr dt co),(pr du bO),(pr dv bR)]) 0 (by decide) ⟨aJ,aD,az,av,am,p9,p8,p7,p6,p5,p4,p3,p2⟩ g
def aqy:=fb [gm] (.not (cmp .lss (fn 1 (pr ag (.int 1))) (.int 0)))<|ak fun ρ p0=>by
 have:=kM p0
 simp only[aa];omega
def aqz:=fb [(.not w5),gm] (cmp .eql (fn 1 (pr ag (.int 15))) (fn 254 (pr aB (pr ag (.int 0)))))<|au fun ρ p0 p1=>by
 have:=jC p1
 have h1:E.I ρ (fn 1 (pr ag (.int 34)))=0:=by
  obtain⟨w,ew,qw⟩:=ab (1-E.I ρ (fn 1 (pr ag (.int 34))))
  simp only[aa,ae,ew]at *;omega
 have:=@afz _ _ aB h1
 simp only[aa];omega
def aqA:=fb ((cmp .lss It (fn 9 (pr (fn 28 (pr (pr br ax) aA)) (.int 12))))::av3::S9::w6) (fn 262 (pr (fn 1 (pr (fn 28 (pr (pr br ax) aA)) (fn 6 (pr (fn 8 (pr It (.int 12))) (.int 3))))) (pr (fn 1 (pr (fn 28 (pr (pr br ax) aA)) (fn 6 (pr (fn 8 (pr It (.int 12))) (.int 6))))) (fn 1 (pr (fn 28 (pr (pr br ax) aA)) (fn 6 (pr (fn 8 (pr It (.int 12))) (.int 7))))))))<|bl fun ρ p0 p1 p2 p3 p4=>by
 have h0:0<=E.I ρ It:=by
  simp only[aa]at *;omega
 have el:E.I ρ (fn 9 (pr (fn 28 (pr (pr br ax) aA)) (.int 12)))=E.I ρ (fn 9 (pr (fn 1 (pr ag (.int 0))) (.int 12))):=by
  have:=gI (show U.eqs (E.L ρ aA) (cX ((E.var 1).den ρ) 0).toL=true from p3)
  show(((E.L ρ aA).length/12:Nat):Int)=(((cX ((E.var 1).den ρ) 0).toL.length/12:Nat):Int)
  rw[this]
 have h1:E.I ρ It<E.I ρ (fn 9 (pr (fn 1 (pr ag (.int 0))) (.int 12))):=by
  rw[<- el]
  simp only[aa]at p0;omega
 exact @Gq (fn 28 (pr (pr br ax) aA)) _ It _ p4 p3 h0 h1
def aqB:=fb [gm] (.not (cmp .lss (.int 9999) (fn 1 (pr ag (.int 1)))))<|ak fun ρ p0=>by
 have:=kM p0
 simp only[aa];omega
def aqC:=fb [gm] (.not (cmp .lss (fn 1 (pr ag (.int 15))) (.int 0)))<|ak fun ρ p0=>by
 have:=kM p0
 simp only[aa];omega
def aqD:=fb Bz (fn 116 (dc [(pr Ta ax),(pr bM bG),(pr bH cg),(pr ij bV),(pr kb ch),(pr kc ci),(pr kd cj),(pr kf ck),(pr kg cm),(pr kh cn),(pr ki co),(pr kj bO),(pr kl bR)] [aA,d8,aI,dY,dZ,d4,d5,d6,d7,dS,dR,cL,cR] ag 0 (fn 1 (pr ag (.int 1)))))<|au fun ρ p0 p1=>by
 exact Gi (X:=var 1) (v:=(fn 1 (pr ag (.int 1)))) [(pr Ta ax),(pr bM bG),(pr bH cg),(pr ij bV),(pr kb ch),(pr kc ci),(pr kd cj),(pr kf ck),(pr kg cm),(pr kh cn),(pr ki co),(pr kj bO),(pr kl bR)] 0 p1 p0
def aqE:=fb Bz (fn 116 (dc [(pr aE ax),(pr aG bG),(pr dk cg),(pr dl bV),(pr dm ch),(pr dp ci),(pr dq cj),(pr dr ck),(pr dt cm),(pr du cn),(pr dv co),(pr It bO),(pr Ta bR)] [aA,d8,aI,dY,dZ,d4,d5,d6,d7,dS,dR,cL,cR] ag 0 br))<|au fun ρ p0 p1=>by
 exact Gi (X:=var 1) (v:=br) [(pr aE ax),(pr aG bG),(pr dk cg),(pr dl bV),(pr dm ch),(pr dp ci),(pr dq cj),(pr dr ck),(pr dt cm),(pr du cn),(pr dv co),(pr It bO),(pr Ta bR)] 0 p1 p0
def aqF:=fb av9 (.not (cmp .lss (.ar .add .i64 bB (.int 1)) (.int 0)))<|aF fun ρ p0 p1 p2 p3=>by
 have:=ao p0
 have:=@dV ρ (fn 1 (pr ag (.int 31)))
 obtain⟨w0,ew0,qw0⟩:=ab (E.I ρ bB+1)
 simp only[aa,ae,ew0]at *;omega
def aqG:=fb [(.not km),tO,Bh,(.not (cmp .lss bO bB))] w8<|aF fun ρ p0 p1 p2 p3=>by
 have:=@vW ρ ag
 have:=@El ρ ag
 have hi:E.I ρ (fn 0 (fn 1 (pr ag (.int 31))))=E.I ρ bB:=by
  simp only[aa]at *;omega
 rw[cV,NN hi,<- cV]
 exact p2
def aqH:=fb Bz (fn 116 (dc [(pr aE ax),(pr aG bG),(pr dk cg),(pr dl bV),(pr dm ch),(pr dp ci),(pr dq cj),(pr dr ck),(pr dt cm),(pr du cn),(pr dv co),(pr It bO),(pr Ta bR)] [aA,d8,aI,dY,dZ,d4,d5,d6,d7,dS,dR,cL,cR] ag 1 br))<|au fun ρ p0 p1=>by
 exact Gi (X:=var 1) (v:=br) [(pr aE ax),(pr aG bG),(pr dk cg),(pr dl bV),(pr dm ch),(pr dp ci),(pr dq cj),(pr dr ck),(pr dt cm),(pr du cn),(pr dv co),(pr It bO),(pr Ta bR)] 1 p1 p0
def aqI:=fb [gm] (.not (cmp .lss (.int 9999) (fn 1 (pr ag (.int 15)))))<|ak fun ρ p0=>by
 have:=kM p0
 simp only[aa];omega
def aqJ:=fb Bg (fn 117 (dc [(pr Ta ax),(pr bM bG),(pr bH cg),(pr ij bV),(pr kb ch),(pr kc ci),(pr kd cj),(pr kf ck),(pr kg cm),(pr kh cn),(pr ki co),(pr kj bO),(pr kl bR)] [aA,d8,aI,dY,dZ,d4,d5,d6,d7,dS,dR,cL,cR] ag 0 (fn 1 (pr ag (.int 1)))))<|mP fun ρ p0 p1 p2 p3 p4 p5 p6 p7 p8 p9 am av az aD=>by
 exact @Gj _ (fn 1 (pr ag (.int 1))) _ _ _ _ _ _ _ _ _ _ _ _ _ _ ([(pr Ta ax),(pr bM bG),(pr bH cg),(pr ij bV),(pr kb ch),(pr kc ci),(pr kd cj),(pr kf ck),(pr kg cm),(pr kh cn),(pr ki co),(pr kj bO),(pr kl bR)]) 0 (by decide) ⟨az,av,am,p9,p8,p7,p6,p5,p4,p3,p2,p1,p0⟩ aD
def aqK:=fb Bg (fn 117 (dc [(pr aE ax),(pr aG bG),(pr dk cg),(pr dl bV),(pr dm ch),(pr dp ci),(pr dq cj),(pr dr ck),(pr dt cm),(pr du cn),(pr dv co),(pr It bO),(pr Ta bR)] [aA,d8,aI,dY,dZ,d4,d5,d6,d7,dS,dR,cL,cR] ag 0 br))<|mP fun ρ p0 p1 p2 p3 p4 p5 p6 p7 p8 p9 am av az aD=>by
 exact @Gj _ br _ _ _ _ _ _ _ _ _ _ _ _ _ _ ([(pr aE ax),(pr aG bG),(pr dk cg),(pr dl bV),(pr dm ch),(pr dp ci),(pr dq cj),(pr dr ck),(pr dt cm),(pr du cn),(pr dv co),(pr It bO),(pr Ta bR)]) 0 (by decide) ⟨az,av,am,p9,p8,p7,p6,p5,p4,p3,p2,p1,p0⟩ aD
def aqL:=fb av9 (.not (cmp .lss bO (.ar .add .i64 bB (.int 1))))<|aF fun ρ p0 p1 p2 p3=>by
 have:=ao p0
 have:=@dV ρ (fn 1 (pr ag (.int 31)))
 obtain⟨w0,ew0,qw0⟩:=ab (E.I ρ bB+1)
 simp only[aa,ae,ew0]at *;omega
def aqM:=fb [pj] (fn 255 (pr aA (pr aB (pr ag (.int 0)))))<|ak fun ρ p0=>by
 exact aJi p0
def aqN:=fb Bg (fn 117 (dc [(pr aE ax),(pr aG bG),(pr dk cg),(pr dl bV),(pr dm ch),(pr dp ci),(pr dq cj),(pr dr ck),(pr dt cm),(pr du cn),(pr dv co),(pr It bO),(pr Ta bR)] [aA,d8,aI,dY,dZ,d4,d5,d6,d7,dS,dR,cL,cR] ag 1 br))<|mP fun ρ p0 p1 p2 p3 p4 p5 p6 p7 p8 p9 am av az aD=>by
 exact @Gj _ br _ _ _ _ _ _ _ _ _ _ _ _ _ _ ([(pr aE ax),(pr aG bG),(pr dk cg),(pr dl bV),(pr dm ch),(pr dp ci),(pr dq cj),(pr dr ck),(pr dt cm),(pr du cn),(pr dv co),(pr It bO),(pr Ta bR)]) 1 (by decide) ⟨az,av,am,p9,p8,p7,p6,p5,p4,p3,p2,p1,p0⟩ aD
def aqO:=fb S5 (fn 115 (dc [(pr Ta ax),(pr bM bG),(pr bH cg),(pr ij bV),(pr kb ch),(pr kc ci),(pr kd cj),(pr kf ck),(pr kg cm),(pr kh cn),(pr ki co),(pr kj bO),(pr kl bR)] [aA,d8,aI,dY,dZ,d4,d5,d6,d7,dS,dR,cL,cR] ag 0 (fn 1 (pr ag (.int 1)))))<|mP fun ρ p0 p1 p2 p3 p4 p5 p6 p7 p8 p9 am av az aD=>by
 have lf:=kM aD;exact @Gh _ _ _ _ _ _ _ _ _ _ _ _ _ _ _ _ ([(pr Ta ax),(pr bM bG),(pr bH cg),(pr ij bV),(pr kb ch),(pr kc ci),(pr kd cj),(pr kf ck),(pr kg cm),(pr kh cn),(pr ki co),(pr kj bO),(pr kl bR)]) 0 (by decide) ⟨az,av,am,p9,p8,p7,p6,p5,p4,p3,p2,p1,p0⟩ aD lf.1.1 lf.1.2
def aqP:=fb awn (fn 115 (dc [(pr aE ax),(pr aG bG),(pr dk cg),(pr dl bV),(pr dm ch),(pr dp ci),(pr dq cj),(pr dr ck),(pr dt cm),(pr du cn),(pr dv co),(pr It bO),(pr Ta bR)] [aA,d8,aI,dY,dZ,d4,d5,d6,d7,dS,dR,cL,cR] ag 0 br))<|lP fun ρ p0 p1 p2 p3 p4 p5 p6 p7 p8 p9 am av az aD aJ aL aU=>by
 have g0:0<=E.I ρ br:=by
  simp only[aa]at *;omega
 have g1:E.I ρ br<=9999:=by
  simp only[aa]at *;omega
 exact @Gh _ _ _ _ _ _ _ _ _ _ _ _ _ _ _ _ ([(pr aE ax),(pr aG bG),(pr dk cg),(pr dl bV),(pr dm ch),(pr dp ci),(pr dq cj),(pr dr ck),(pr dt cm),(pr du cn),(pr dv co),(pr It bO),(pr Ta bR)]) 0 (by decide) ⟨aJ,aD,az,av,am,p9,p8,p7,p6,p5,p4,p3,p2⟩ aL g0 g1
def aqQ:=fb (km::(fn 33 (pr iM (fn 1 (pr cL bB))))::w4::tO::pi::awp) (cmp .eql br (fn 254 (pr aB (pr ag (.ar .add .i64 bB (.int 1))))))<|fB fun ρ p0 p1 p2 p3 p4 p5 p6 p7 p8=>by
 have hn:E.I ρ (.ar .add .i64 bB (.int 1))=E.I ρ bB+1:=by
  have:=ao p6
  have:=@dV ρ (fn 1 (pr ag (.int 31)))
  obtain⟨w,ew,qw⟩:=ab (E.I ρ bB+1)
  simp only[aa,ae,ew]at *;omega
 have h0:0<=E.I ρ bB:=by
  simp only[aa]at *;omega
 have h1:E.I ρ bB<(((aC ((E.var 1).den ρ)).length:Nat):Int):=by
  rw[<- @vW ρ ag]
  simp only[aa]at *;omega
 have u:=aJc p5 p2 p4 h0 h1 p1 hn
 rw[cV,u,<- cV]
 exact p7
def aqR:=fb [Tf,(fn 33 (pr iM (fn 1 (pr aE (fn 6 (pr (fn 8 (pr aG (.int 12))) (.int 0))))))),tP,awq,w4,Ix,gm] (fn 262 (pr (fn 1 (pr aE (fn 6 (pr (fn 8 (pr aG (.int 12))) (.int 5))))) (pr (fn 1 (pr (fn 32 (pr iM (pr (fn 1 (pr aE (fn 6 (pr (fn 8 (pr aG (.int 12))) (.int 0))))) (fn 23 (pr (.int 0) (fn 23 (pr ml (fn 10 (.int 0))))))))) (.int 0))) (.int 0))))<|eZ fun ρ p0 p1 p2 p3 p4 p5 p6=>by
 have h0:0<=E.I ρ aG:=by
  simp only[aa]at *;omega
 have h1:E.I ρ aG<E.I ρ (fn 9 (pr (fn 1 (pr ag (.int 0))) (.int 12))):=by
  simp only[aa]at *;omega
 exact @aJp _ aE _ _ (fn 23 (pr (.int 0) (fn 23 (pr ml (fn 10 (.int 0)))))) _ _ p6 p4 p2 h0 h1 p1
def aqS:=fb aws (.not (cmp .lss (.ar .add .i64 aG (.int 1)) (.int 0)))<|aF fun ρ p0 p1 p2 p3=>by
 have:=ao p0
 obtain⟨w0,ew0,qw0⟩:=ab (E.I ρ aG+1)
 simp only[aa,ae,ew0]at *;omega
def aqT:=fb [w8,S4] (fn 256 (pr (cU [br,(fn 1 (pr ag (.int 2))),(fn 1 (pr ag (.int 3))),(fn 1 (pr ag (.int 4))),(fn 1 (pr ag (.int 5))),(fn 1 (pr ag (.int 10))),(fn 1 (pr ag (.int 11))),(fn 1 (pr ag (.int 12))),(fn 1 (pr ag (.int 13))),(fn 1 (pr ag (.int 14))),(fn 1 (pr ag (.int 15))),(fn 1 (pr ag (.int 16))),(fn 1 (pr ag (.int 17))),(fn 1 (pr ag (.int 18))),(fn 1 (pr ag (.int 19))),(fn 1 (pr ag (.int 24))),(fn 1 (pr ag (.int 25))),(fn 1 (pr ag (.int 26))),(fn 1 (pr ag (.int 27))),(fn 1 (pr ag (.int 28))),(fn 1 (pr ag (.int 33))),(fn 1 (pr ag (.int 34))),(fn 1 (pr ag (.int 35))),(fn 1 (pr ag (.int 36))),(fn 1 (pr ag (.int 37)))]) (pr aB ag)))<|au fun ρ p0 p1=>by
 have ha:E.I ρ (fn 1 (pr ag (.int 34)))=1:=by
  rw[cV]at p1;exact p1
 refine @afD _ br _ _ 0 (by rw[JL ha]) ?_
 rw[<- cV];exact p0
def aqU:=fb [w8,S6] (fn 256 (pr (cU [(fn 1 (pr ag (.int 1))),(fn 1 (pr ag (.int 2))),(fn 1 (pr ag (.int 3))),(fn 1 (pr ag (.int 4))),(fn 1 (pr ag (.int 5))),(fn 1 (pr ag (.int 10))),(fn 1 (pr ag (.int 11))),(fn 1 (pr ag (.int 12))),(fn 1 (pr ag (.int 13))),(fn 1 (pr ag (.int 14))),br,(fn 1 (pr ag (.int 16))),(fn 1 (pr ag (.int 17))),(fn 1 (pr ag (.int 18))),(fn 1 (pr ag (.int 19))),(fn 1 (pr ag (.int 24))),(fn 1 (pr ag (.int 25))),(fn 1 (pr ag (.int 26))),(fn 1 (pr ag (.int 27))),(fn 1 (pr ag (.int 28))),(fn 1 (pr ag (.int 33))),(fn 1 (pr ag (.int 34))),(fn 1 (pr ag (.int 35))),(fn 1 (pr ag (.int 36))),(fn 1 (pr ag (.int 37)))]) (pr aB ag)))<|au fun ρ p0 p1=>by
 have ha:E.I ρ (fn 1 (pr ag (.int 34)))=0:=by
  rw[cV]at p1;exact p1
 refine @afD _ br _ _ 1 (by rw[JM ha]) ?_
 rw[<- cV];exact p0
def aqV:=fb awn (fn 115 (dc [(pr aE ax),(pr aG bG),(pr dk cg),(pr dl bV),(pr dm ch),(pr dp ci),(pr dq cj),(pr dr ck),(pr dt cm),(pr du cn),(pr dv co),(pr It bO),(pr Ta bR)] [aA,d8,aI,dY,dZ,d4,d5,d6,d7,dS,dR,cL,cR] ag 1 br))<|lP fun ρ p0 p1 p2 p3 p4 p5 p6 p7 p8 p9 am av az aD aJ aL aU=>by
 have g0:0<=E.I ρ br:=by
  simp only[aa]at *;omega
 have g1:E.I ρ br<=9999:=by
  simp only[aa]at *;omega
 exact @Gh _ _ _ _ _ _ _ _ _ _ _ _ _ _ _ _ ([(pr aE ax),(pr aG bG),(pr dk cg),(pr dl bV),(pr dm ch),(pr dp ci),(pr dq cj),(pr dr ck),(pr dt cm),(pr du cn),(pr dv co),(pr It bO),(pr Ta bR)]) 1 (by decide) ⟨aJ,aD,az,av,am,p9,p8,p7,p6,p5,p4,p3,p2⟩ aL g0 g1
def aqW:=fb S8 (.not (cmp .lss (fn 120 (pr (dc [(pr Ta ax),(pr bM bG),(pr bH cg),(pr ij bV),(pr kb ch),(pr kc ci),(pr kd cj),(pr kf ck),(pr kg cm),(pr kh cn),(pr ki co),(pr kj bO),(pr kl bR)] [aA,d8,aI,dY,dZ,d4,d5,d6,d7,dS,dR,cL,cR] ag 0 (fn 1 (pr ag (.int 1)))) (pr (fn 1 (pr cR (fn 6 (pr (fn 8 (pr dz (.int 2))) (.int 0))))) (fn 9 (pr (fn 28 (pr (pr Ta ax) aA)) (.int 12)))))) (.int 0)))<|lP fun ρ p0 p1 p2 p3 p4 p5 p6 p7 p8 p9 am av az aD aJ aL aU=>by
 have h0:0<=E.I ρ dz:=by
  simp only[aa]at *;omega
 have h1:E.I ρ dz<E.I ρ (fn 9 (pr (fn 1 (pr ag (.int 32))) (.int 2))):=by
  simp only[aa]at *;omega
 have g:=aBN aL p2 h0 h1;exact @aKl _ _ (fn 1 (pr ag (.int 1))) _ _ _ _ _ _ _ _ _ _ _ _ _ _ _ ([(pr Ta ax),(pr bM bG),(pr bH cg),(pr ij bV),(pr kb ch),(pr kc ci),(pr kd cj),(pr kf ck),(pr kg cm),(pr kh cn),(pr ki co),(pr kj bO),(pr kl bR)]) 0 (by decide) ⟨aJ,aD,az,av,am,p9,p8,p7,p6,p5,p4,p3,p2⟩ g
def aqX:=fb awH (.not (cmp .lss (fn 120 (pr (dc [(pr aE ax),(pr aG bG),(pr dk cg),(pr dl bV),(pr dm ch),(pr dp ci),(pr dq cj),(pr dr ck),(pr dt cm),(pr du cn),(pr dv co),(pr It bO),(pr Ta bR)] [aA,d8,aI,dY,dZ,d4,d5,d6,d7,dS,dR,cL,cR] ag 0 br) (pr (fn 1 (pr cL bB)) (fn 9 (pr (fn 28 (pr (pr aE ax) aA)) (.int 12)))))) (.int 0)))<|lP fun ρ p0 p1 p2 p3 p4 p5 p6 p7 p8 p9 am av az aD aJ aL aU=>by
 have h0:0<=E.I ρ bB:=by
  simp only[aa]at *;omega
 have h1:E.I ρ bB<(((aC ((E.var 1).den ρ)).length:Nat):Int):=by
  rw[<- @vW ρ ag]
  simp only[aa]at *;omega
 have g:=JY aL p3 h0 h1;exact @aKl _ _ br _ _ _ _ _ _ _ _ _ _ _ _ _ _ _ ([(pr aE ax),(pr aG bG),(pr dk cg),(pr dl bV),(pr dm ch),(pr dp ci),(pr dq cj),(pr dr ck),(pr dt cm),(pr du cn),(pr dv co),(pr It bO),(pr Ta bR)]) 0 (by decide) ⟨aJ,aD,az,av,am,p9,p8,p7,p6,p5,p4,p3,p1⟩ g
def aqY:=fb av9 (cmp .lss (fn 7 (pr bO (.ar .add .i64 bB (.int 1)))) (fn 7 (pr bO bB)))<|aF fun ρ p0 p1 p2 p3=>by
 have:=ao p0
 have:=@dV ρ (fn 1 (pr ag (.int 31)))
 obtain⟨w0,ew0,qw0⟩:=ab (E.I ρ bB+1)
 simp only[aa,ae,ew0]at *;omega
def aqZ:=fb aws (.not (cmp .lss ax (.ar .add .i64 aG (.int 1))))<|aF fun ρ p0 p1 p2 p3=>by
 have:=ao p0
 obtain⟨w0,ew0,qw0⟩:=ab (E.I ρ aG+1)
 simp only[aa,ae,ew0]at *;omega
def aq0:=fb [(.not Tf),tP,(.not (cmp .lss ax aG)),Ix] (fn 255 (pr aE (pr aB (pr ag (fn 9 (pr (fn 1 (pr ag (.int 0))) (.int 12)))))))<|aF fun ρ p0 p1 p2 p3=>by
 have hi:E.I ρ (fn 9 (pr (fn 1 (pr ag (.int 0))) (.int 12)))=E.I ρ aG:=by
  simp only[aa]at *;omega
 exact aJg p1 hi
def aq1:=fb awH (.not (cmp .lss (fn 120 (pr (dc [(pr aE ax),(pr aG bG),(pr dk cg),(pr dl bV),(pr dm ch),(pr dp ci),(pr dq cj),(pr dr ck),(pr dt cm),(pr du cn),(pr dv co),(pr It bO),(pr Ta bR)] [aA,d8,aI,dY,dZ,d4,d5,d6,d7,dS,dR,cL,cR] ag 1 br) (pr (fn 1 (pr cL bB)) (fn 9 (pr (fn 28 (pr (pr aE ax) aA)) (.int 12)))))) (.int 0)))<|lP fun ρ p0 p1 p2 p3 p4 p5 p6 p7 p8 p9 am av az aD aJ aL aU=>by
 have h0:0<=E.I ρ bB:=by
  simp only[aa]at *;omega
 have h1:E.I ρ bB<(((aC ((E.var 1).den ρ)).length:Nat):Int):=by
  rw[<- @vW ρ ag]
  simp only[aa]at *;omega
 have g:=JY aL p3 h0 h1;exact @aKl _ _ br _ _ _ _ _ _ _ _ _ _ _ _ _ _ _ ([(pr aE ax),(pr aG bG),(pr dk cg),(pr dl bV),(pr dm ch),(pr dp ci),(pr dq cj),(pr dr ck),(pr dt cm),(pr du cn),(pr dv co),(pr It bO),(pr Ta bR)]) 1 (by decide) ⟨aJ,aD,az,av,am,p9,p8,p7,p6,p5,p4,p3,p1⟩ g
def aq2:=fb ((cmp .lss awI (fn 9 (pr (fn 28 (pr (pr Ta ax) aA)) (.int 12))))::tQ::fV::w6) (fn 262 (pr (fn 1 (pr (fn 28 (pr (pr Ta ax) aA)) (fn 6 (pr (fn 8 (pr awI (.int 12))) (.int 3))))) (pr (fn 1 (pr (fn 28 (pr (pr Ta ax) aA)) (fn 6 (pr (fn 8 (pr awI (.int 12))) (.int 6))))) (fn 1 (pr (fn 28 (pr (pr Ta ax) aA)) (fn 6 (pr (fn 8 (pr awI (.int 12))) (.int 7))))))))<|bl fun ρ p0 p1 p2 p3 p4=>by
 have h0:0<=E.I ρ awI:=by
  simp only[aa]at *;omega
 have el:E.I ρ (fn 9 (pr (fn 28 (pr (pr Ta ax) aA)) (.int 12)))=E.I ρ (fn 9 (pr (fn 1 (pr ag (.int 0))) (.int 12))):=by
  have:=gI (show U.eqs (E.L ρ aA) (cX ((E.var 1).den ρ) 0).toL=true from p3)
  show(((E.L ρ aA).length/12:Nat):Int)=(((cX ((E.var 1).den ρ) 0).toL.length/12:Nat):Int)
  rw[this]
 have h1:E.I ρ awI<E.I ρ (fn 9 (pr (fn 1 (pr ag (.int 0))) (.int 12))):=by
  rw[<- el]
  simp only[aa]at p0;omega
 exact @Gq (fn 28 (pr (pr Ta ax) aA)) _ awI _ p4 p3 h0 h1
def aq3:=fb (awJ::Th::Ti::w6) Tj<|bl fun ρ p0 p1 p2 p3 p4=>by
 have h0:0<=E.I ρ bM:=by
  simp only[aa]at *;omega
 have el:E.I ρ (fn 9 (pr (fn 28 (pr (pr aE ax) aA)) (.int 12)))=E.I ρ (fn 9 (pr (fn 1 (pr ag (.int 0))) (.int 12))):=by
  have:=gI (show U.eqs (E.L ρ aA) (cX ((E.var 1).den ρ) 0).toL=true from p3)
  show(((E.L ρ aA).length/12:Nat):Int)=(((cX ((E.var 1).den ρ) 0).toL.length/12:Nat):Int)
  rw[this]
 have h1:E.I ρ bM<E.I ρ (fn 9 (pr (fn 1 (pr ag (.int 0))) (.int 12))):=by
  rw[<- el]
  simp only[aa]at p0;omega
 exact @Gq (fn 28 (pr (pr aE ax) aA)) _ bM _ p4 p3 h0 h1
def aq4:=fb av9 (.not (cmp .lss (fn 7 (pr bO (.ar .add .i64 bB (.int 1)))) (.int 0)))<|aF fun ρ p0 p1 p2 p3=>by
 have:=ao p0
 have:=@dV ρ (fn 1 (pr ag (.int 31)))
 obtain⟨w0,ew0,qw0⟩:=ab (E.I ρ bB+1)
 simp only[aa,ae,ew0]at *;omega
def aq5:=fb (Tf::(.not (fn 33 (pr iM (fn 1 (pr aE (fn 6 (pr (fn 8 (pr aG (.int 12))) (.int 0))))))))::Tl) (fn 255 (pr aE awK))<|eZ fun ρ p0 p1 p2 p3 p4 p5 p6=>by
 have hn:E.I ρ (.ar .add .i64 aG (.int 1))=E.I ρ aG+1:=by
  have:=ao p6
  have:=@dV ρ (fn 1 (pr ag (.int 31)))
  obtain⟨w,ew,qw⟩:=ab (E.I ρ aG+1)
  simp only[aa,ae,ew]at *;omega
 have h0:0<=E.I ρ aG:=by
  simp only[aa]at *;omega
 have h1:E.I ρ aG<E.I ρ (fn 9 (pr (fn 1 (pr ag (.int 0))) (.int 12))):=by
  simp only[aa]at *;omega
 refine aJh p4 p2 h0 h1 hn ?_
 rw[<- gh];exact p1
def aq6:=fb (awJ::Th::awL::w6) Tj<|bl fun ρ p0 p1 p2 p3 p4=>by
 have h0:0<=E.I ρ bM:=by
  simp only[aa]at *;omega
 have el:E.I ρ (fn 9 (pr (fn 28 (pr (pr aE ax) aA)) (.int 12)))=E.I ρ (fn 9 (pr (fn 1 (pr ag (.int 0))) (.int 12))):=by
  have:=gI (show U.eqs (E.L ρ aA) (cX ((E.var 1).den ρ) 0).toL=true from p3)
  show(((E.L ρ aA).length/12:Nat):Int)=(((cX ((E.var 1).den ρ) 0).toL.length/12:Nat):Int)
  rw[this]
 have h1:E.I ρ bM<E.I ρ (fn 9 (pr (fn 1 (pr ag (.int 0))) (.int 12))):=by
  rw[<- el]
  simp only[aa]at p0;omega
 exact @Gq (fn 28 (pr (pr aE ax) aA)) _ bM _ p4 p3 h0 h1
def aq7:=fb Tn (.not (cmp .lss (.ar .add .i64 dz (.int 1)) (.int 0)))<|aF fun ρ p0 p1 p2 p3=>by
 have:=ao p0
 obtain⟨w0,ew0,qw0⟩:=ab (E.I ρ dz+1)
 simp only[aa,ae,ew0]at *;omega
def aq8:=fa ((.not (cmp .lss (fn 251 (pr aB (pr (fn 1 (pr (fn 28 (pr (pr aE ax) aA)) (fn 6 (pr (fn 8 (pr bM (.int 12))) (.int 1))))) (pr (fn 1 (pr (fn 28 (pr (pr aE ax) aA)) (fn 6 (pr (fn 8 (pr bM (.int 12))) (.int 3))))) (pr (fn 1 (pr (fn 28 (pr (pr aE ax) aA)) (fn 6 (pr (fn 8 (pr bM (.int 12))) (.int 6))))) (fn 1 (pr (fn 28 (pr (pr aE ax) aA)) (fn 6 (pr (fn 8 (pr bM (.int 12))) (.int 7)))))))))) (.int 0))))<|fun ρ=>by
 have:=@Ae ρ (pr aB (pr (fn 1 (pr (fn 28 (pr (pr aE ax) aA)) (fn 6 (pr (fn 8 (pr bM (.int 12))) (.int 1))))) (pr (fn 1 (pr (fn 28 (pr (pr aE ax) aA)) (fn 6 (pr (fn 8 (pr bM (.int 12))) (.int 3))))) (pr (fn 1 (pr (fn 28 (pr (pr aE ax) aA)) (fn 6 (pr (fn 8 (pr bM (.int 12))) (.int 6))))) (fn 1 (pr (fn 28 (pr (pr aE ax) aA)) (fn 6 (pr (fn 8 (pr bM (.int 12))) (.int 7)))))))))
 simp only[aa];omega
def aq9:=fb (Tf::(fn 33 (pr iM (fn 1 (pr aE (fn 6 (pr (fn 8 (pr aG (.int 12))) (.int 0)))))))::(.not (fn 1 (pr aE (fn 6 (pr (fn 8 (pr aG (.int 12))) (.int 11))))))::Tl) (fn 255 (pr (fn 2 (pr (fn 2 (pr (fn 2 (pr (fn 2 (pr (fn 2 (pr (fn 2 (pr (fn 2 (pr (fn 2 (pr (fn 2 (pr (fn 2 (pr (fn 2 (pr (fn 2 (pr aE (pr (fn 6 (pr (fn 8 (pr aG (.int 12))) (.int 0))) (fn 1 (pr aE (fn 6 (pr (fn 8 (pr aG (.int 12))) (.int 0)))))))) (pr (fn 6 (pr (fn 8 (pr aG (.int 12))) (.int 1))) (fn 1 (pr aE (fn 6 (pr (fn 8 (pr aG (.int 12))) (.int 1)))))))) (pr (fn 6 (pr (fn 8 (pr aG (.int 12))) (.int 2))) (fn 1 (pr aE (fn 6 (pr (fn 8 (pr aG (.int 12))) (.int 2)))))))) (pr (fn 6 (pr (fn 8 (pr aG (.int 12))) (.int 3))) (fn 1 (pr aE (fn 6 (pr (fn 8 (pr aG (.int 12))) (.int 3)))))))) (pr (fn 6 (pr (fn 8 (pr aG (.int 12))) (.int 4))) (fn 1 (pr aE (fn 6 (pr (fn 8 (pr aG (.int 12))) (.int 4)))))))) (pr (fn 6 (pr (fn 8 (pr aG (.int 12))) (.int 5))) (fn 252 (pr (fn 1 (pr aE (fn 6 (pr (fn 8 (pr aG (.int 12))) (.int 5))))) (fn 1 (pr (fn 32 (pr iM (pr (fn 1 (pr aE (fn 6 (pr (fn 8 (pr aG (.int 12))) (.int 0))))) (fn 23 (pr (.int 0) (fn 23 (pr ml (fn 10 (.int 0))))))))) (.int 0)))))))) (pr (fn 6 (pr (fn 8 (pr aG (.int 12))) (.int 6))) (fn 1 (pr aE (fn 6 (pr (fn 8 (pr aG (.int 12))) (.int 6)))))))) (pr (fn 6 (pr (fn 8 (pr aG (.int 12))) (.int 7))) (fn 1 (pr aE (fn 6 (pr (fn 8 (pr aG (.int 12))) (.int 7)))))))) (pr (fn 6 (pr (fn 8 (pr aG (.int 12))) (.int 8))) (fn 1 (pr aE (fn 6 (pr (fn 8 (pr aG (.int 12))) (.int 8)))))))) (pr (fn 6 (pr (fn 8 (pr aG (.int 12))) (.int 9))) (fn 1 (pr aE (fn 6 (pr (fn 8 (pr aG (.int 12))) (.int 9)))))))) (pr (fn 6 (pr (fn 8 (pr aG (.int 12))) (.int 10))) (fn 1 (pr aE (fn 6 (pr (fn 8 (pr aG (.int 12))) (.int 10)))))))) (pr (fn 6 (pr (fn 8 (pr aG (.int 12))) (.int 11))) (fn 1 (pr (fn 32 (pr iM (pr (fn 1 (pr aE (fn 6 (pr (fn 8 (pr aG (.int 12))) (.int 0))))) (fn 23 (pr (.int 0) (fn 23 (pr ml (fn 10 (.int 0))))))))) (.int 1)))))) awK))<|dO fun ρ p0 p1 p2 p3 p4 p5 p6 p7=>by
 have hn:E.I ρ (.ar .add .i64 aG (.int 1))=E.I ρ aG+1:=by
  have:=ao p7
  have:=@dV ρ (fn 1 (pr ag (.int 31)))
  obtain⟨w,ew,qw⟩:=ab (E.I ρ aG+1)
  simp only[aa,ae,ew]at *;omega
 have h0:0<=E.I ρ aG:=by
  simp only[aa]at *;omega
 have h1:E.I ρ aG<E.I ρ (fn 9 (pr (fn 1 (pr ag (.int 0))) (.int 12))):=by
  simp only[aa]at *;omega
 refine @afC _ aE _ _ _ _ (fn 23 (pr (.int 0) (fn 23 (pr ml (fn 10 (.int 0)))))) _ _ p5 p3 h0 h1 hn p1 ?_;have hd:=p2
 rw[gh,Bool.not_eq_true]at hd
 have g:=@aE6 _ _ _ _ (fn 23 (pr (.int 0) (fn 23 (pr ml (fn 10 (.int 0)))))) _ _ p5 p3 h0 h1 p1;show _=U.bool (E.B ρ (fn 1 (pr aE (fn 6 (pr (fn 8 (pr aG (.int 12))) (.int 11)))))||_)
 rw[hd]
 exact g
def ara:=fb (Tf::(fn 33 (pr iM (fn 1 (pr aE (fn 6 (pr (fn 8 (pr aG (.int 12))) (.int 0)))))))::(fn 1 (pr aE (fn 6 (pr (fn 8 (pr aG (.int 12))) (.int 11)))))::Tl) (fn 255 (pr (fn 2 (pr (fn 2 (pr (fn 2 (pr (fn 2 (pr (fn 2 (pr (fn 2 (pr (fn 2 (pr (fn 2 (pr (fn 2 (pr (fn 2 (pr (fn 2 (pr (fn 2 (pr aE (pr (fn 6 (pr (fn 8 (pr aG (.int 12))) (.int 0))) (fn 1 (pr aE (fn 6 (pr (fn 8 (pr aG (.int 12))) (.int 0)))))))) (pr (fn 6 (pr (fn 8 (pr aG (.int 12))) (.int 1))) (fn 1 (pr aE (fn 6 (pr (fn 8 (pr aG (.int 12))) (.int 1)))))))) (pr (fn 6 (pr (fn 8 (pr aG (.int 12))) (.int 2))) (fn 1 (pr aE (fn 6 (pr (fn 8 (pr aG (.int 12))) (.int 2)))))))) (pr (fn 6 (pr (fn 8 (pr aG (.int 12))) (.int 3))) (fn 1 (pr aE (fn 6 (pr (fn 8 (pr aG (.int 12))) (.int 3)))))))) (pr (fn 6 (pr (fn 8 (pr aG (.int 12))) (.int 4))) (fn 1 (pr aE (fn 6 (pr (fn 8 (pr aG (.int 12))) (.int 4)))))))) (pr (fn 6 (pr (fn 8 (pr aG (.int 12))) (.int 5))) (fn 252 (pr (fn 1 (pr aE (fn 6 (pr (fn 8 (pr aG (.int 12))) (.int 5))))) (fn 1 (pr (fn 32 (pr iM (pr (fn 1 (pr aE (fn 6 (pr (fn 8 (pr aG (.int 12))) (.int 0))))) (fn 23 (pr (.int 0) (fn 23 (pr ml (fn 10 (.int 0))))))))) (.int 0)))))))) (pr (fn 6 (pr (fn 8 (pr aG (.int 12))) (.int 6))) (fn 1 (pr aE (fn 6 (pr (fn 8 (pr aG (.int 12))) (.int 6)))))))) (pr (fn 6 (pr (fn 8 (pr aG (.int 12))) (.int 7))) (fn 1 (pr aE (fn 6 (pr (fn 8 (pr aG (.int 12))) (.int 7)))))))) (pr (fn 6 (pr (fn 8 (pr aG (.int 12))) (.int 8))) (fn 1 (pr aE (fn 6 (pr (fn 8 (pr aG (.int 12))) (.int 8)))))))) (pr (fn 6 (pr (fn 8 (pr aG (.int 12))) (.int 9))) (fn 1 (pr aE (fn 6 (pr (fn 8 (pr aG (.int 12))) (.int 9)))))))) (pr (fn 6 (pr (fn 8 (pr aG (.int 12))) (.int 10))) (fn 1 (pr aE (fn 6 (pr (fn 8 (pr aG (.int 12))) (.int 10)))))))) (pr (fn 6 (pr (fn 8 (pr aG (.int 12))) (.int 11))) (.bool true)))) awK))<|dO fun ρ p0 p1 p2 p3 p4 p5 p6 p7=>by
 have hn:E.I ρ (.ar .add .i64 aG (.int 1))=E.I ρ aG+1:=by
  have:=ao p7
  have:=@dV ρ (fn 1 (pr ag (.int 31)))
  obtain⟨w,ew,qw⟩:=ab (E.I ρ aG+1)
  simp only[aa,ae,ew]at *;omega
 have h0:0<=E.I ρ aG:=by
  simp only[aa]at *;omega
 have h1:E.I ρ aG<E.I ρ (fn 9 (pr (fn 1 (pr ag (.int 0))) (.int 12))):=by
  simp only[aa]at *;omega
 have hd:E.B ρ (fn 1 (pr aE (fn 6 (pr (fn 8 (pr aG (.int 12))) (.int 11)))))=true:=p2;refine @afC _ aE _ _ _ _ (fn 23 (pr (.int 0) (fn 23 (pr ml (fn 10 (.int 0)))))) _ _ p5 p3 h0 h1 hn p1 ?_;show U.bool true=U.bool (E.B ρ (fn 1 (pr aE (fn 6 (pr (fn 8 (pr aG (.int 12))) (.int 11)))))||_)
 rw[hd];rfl
def arb:=fb aws (cmp .lss (fn 7 (pr ax (.ar .add .i64 aG (.int 1)))) (fn 7 (pr ax aG)))<|aF fun ρ p0 p1 p2 p3=>by
 have:=ao p0
 obtain⟨w0,ew0,qw0⟩:=ab (E.I ρ aG+1)
 simp only[aa,ae,ew0]at *;omega
def arc:=fb Tn (.not (cmp .lss bR (.ar .add .i64 dz (.int 1))))<|aF fun ρ p0 p1 p2 p3=>by
 have:=ao p0
 obtain⟨w0,ew0,qw0⟩:=ab (E.I ρ dz+1)
 simp only[aa,ae,ew0]at *;omega
def ard:=fa ((.not (cmp .lss (.int 100000) (fn 251 (pr aB (pr (fn 1 (pr (fn 28 (pr (pr aE ax) aA)) (fn 6 (pr (fn 8 (pr bM (.int 12))) (.int 1))))) (pr (fn 1 (pr (fn 28 (pr (pr aE ax) aA)) (fn 6 (pr (fn 8 (pr bM (.int 12))) (.int 3))))) (pr (fn 1 (pr (fn 28 (pr (pr aE ax) aA)) (fn 6 (pr (fn 8 (pr bM (.int 12))) (.int 6))))) (fn 1 (pr (fn 28 (pr (pr aE ax) aA)) (fn 6 (pr (fn 8 (pr bM (.int 12))) (.int 7)))))))))))))<|fun ρ=>by
 have:=@Ae ρ (pr aB (pr (fn 1 (pr (fn 28 (pr (pr aE ax) aA)) (fn 6 (pr (fn 8 (pr bM (.int 12))) (.int 1))))) (pr (fn 1 (pr (fn 28 (pr (pr aE ax) aA)) (fn 6 (pr (fn 8 (pr bM (.int 12))) (.int 3))))) (pr (fn 1 (pr (fn 28 (pr (pr aE ax) aA)) (fn 6 (pr (fn 8 (pr bM (.int 12))) (.int 6))))) (fn 1 (pr (fn 28 (pr (pr aE ax) aA)) (fn 6 (pr (fn 8 (pr bM (.int 12))) (.int 7)))))))))
 simp only[aa];omega
def arf:=fb aws (.not (cmp .lss (fn 7 (pr ax (.ar .add .i64 aG (.int 1)))) (.int 0)))<|aF fun ρ p0 p1 p2 p3=>by
 have:=ao p0
 obtain⟨w0,ew0,qw0⟩:=ab (E.I ρ aG+1)
 simp only[aa,ae,ew0]at *;omega
def arg:=fb (Be::av3::S9::tQ::fV::Bf::qS::pi::qT::qU::qV::qW::qX::qY::qZ::q8::q9::ra::pj::rb::S2::Is) (fn 253 (pr (fn 34 (pr (fn 34 (pr iM (pr (fn 1 (pr cR (fn 6 (pr (fn 8 (pr dz (.int 2))) (.int 0))))) (fn 23 (pr (fn 251 (pr aB (pr (fn 1 (pr (fn 28 (pr (pr br ax) aA)) (fn 6 (pr (fn 8 (pr It (.int 12))) (.int 1))))) (pr (fn 1 (pr (fn 28 (pr (pr br ax) aA)) (fn 6 (pr (fn 8 (pr It (.int 12))) (.int 3))))) (pr (fn 1 (pr (fn 28 (pr (pr br ax) aA)) (fn 6 (pr (fn 8 (pr It (.int 12))) (.int 6))))) (fn 1 (pr (fn 28 (pr (pr br ax) aA)) (fn 6 (pr (fn 8 (pr It (.int 12))) (.int 7)))))))))) (fn 23 (pr (.and (cmp .lss (.int 0) (fn 251 (pr aB (pr (fn 1 (pr (fn 28 (pr (pr br ax) aA)) (fn 6 (pr (fn 8 (pr It (.int 12))) (.int 1))))) (pr (fn 1 (pr (fn 28 (pr (pr br ax) aA)) (fn 6 (pr (fn 8 (pr It (.int 12))) (.int 3))))) (pr (fn 1 (pr (fn 28 (pr (pr br ax) aA)) (fn 6 (pr (fn 8 (pr It (.int 12))) (.int 6))))) (fn 1 (pr (fn 28 (pr (pr br ax) aA)) (fn 6 (pr (fn 8 (pr It (.int 12))) (.int 7))))))))))) (fn 222 (pr aB (pr (fn 1 (pr (fn 28 (pr (pr br ax) aA)) (fn 6 (pr (fn 8 (pr It (.int 12))) (.int 1))))) (.int 8))))) (fn 10 (.int 0))))))))) (pr (fn 1 (pr cR (fn 6 (pr (fn 8 (pr dz (.int 2))) (.int 1))))) (fn 23 (pr (fn 251 (pr aB (pr (fn 1 (pr (fn 28 (pr (pr Ta ax) aA)) (fn 6 (pr (fn 8 (pr awI (.int 12))) (.int 1))))) (pr (fn 1 (pr (fn 28 (pr (pr Ta ax) aA)) (fn 6 (pr (fn 8 (pr awI (.int 12))) (.int 3))))) (pr (fn 1 (pr (fn 28 (pr (pr Ta ax) aA)) (fn 6 (pr (fn 8 (pr awI (.int 12))) (.int 6))))) (fn 1 (pr (fn 28 (pr (pr Ta ax) aA)) (fn 6 (pr (fn 8 (pr awI (.int 12))) (.int 7)))))))))) (fn 23 (pr (.and (cmp .lss (.int 0) (fn 251 (pr aB (pr (fn 1 (pr (fn 28 (pr (pr Ta ax) aA)) (fn 6 (pr (fn 8 (pr awI (.int 12))) (.int 1))))) (pr (fn 1 (pr (fn 28 (pr (pr Ta ax) aA)) (fn 6 (pr (fn 8 (pr awI (.int 12))) (.int 3))))) (pr (fn 1 (pr (fn 28 (pr (pr Ta ax) aA)) (fn 6 (pr (fn 8 (pr awI (.int 12))) (.int 6))))) (fn 1 (pr (fn 28 (pr (pr Ta ax) aA)) (fn 6 (pr (fn 8 (pr awI (.int 12))) (.int 7))))))))))) (fn 222 (pr aB (pr (fn 1 (pr (fn 28 (pr (pr Ta ax) aA)) (fn 6 (pr (fn 8 (pr awI (.int 12))) (.int 1))))) (.int 8))))) (fn 10 (.int 0))))))))) (pr aB (pr ag (.ar .add .i64 dz (.int 1))))))<|aa5 fun ρ p0 p1 p2 p3 p4 p5 p6 p7 p8 p9 am av az aD aJ aL aU bg bn bD bL bW=>by
 have hn:E.I ρ (.ar .add .i64 dz (.int 1))=E.I ρ dz+1:=by
  have:=ao bD
  have:=@dV ρ (fn 1 (pr ag (.int 31)))
  obtain⟨w,ew,qw⟩:=ab (E.I ρ dz+1)
  simp only[aa,ae,ew]at *;omega
 have h0:0<=E.I ρ dz:=by
  simp only[aa]at *;omega
 have hP:=@aKk _ _ _ (fn 1 (pr ag (.int 1))) _ _ _ _ _ _ _ _ _ _ _ _ _ _ _ ([(pr br ax),(pr bB bG),(pr aE cg),(pr aG bV),(pr dk ch),(pr dl ci),(pr dm cj),(pr dp ck),(pr dq cm),(pr dr cn),(pr dt co),(pr du bO),(pr dv bR)]) 0 (by decide) ⟨bn,bg,aU,aL,aJ,aD,az,av,am,p9,p8,p7,p6⟩ p2;have hP0:0<=E.I ρ It:=by
  simp only[aa]at *;omega
 have hQ:=@aKk _ _ _ (fn 1 (pr ag (.int 1))) _ _ _ _ _ _ _ _ _ _ _ _ _ _ _ ([(pr Ta ax),(pr bM bG),(pr bH cg),(pr ij bV),(pr kb ch),(pr kc ci),(pr kd cj),(pr kf ck),(pr kg cm),(pr kh cn),(pr ki co),(pr kj bO),(pr kl bR)]) 0 (by decide) ⟨bn,bg,aU,aL,aJ,aD,az,av,am,p9,p8,p7,p6⟩ p4;have hQ0:0<=E.I ρ awI:=by
  simp only[aa]at *;omega
 exact aJa (O:=(fn 28 (pr (pr br ax) aA))) (O':=(fn 28 (pr (pr Ta ax) aA))) (P:=It) (Q:=awI) bL p6 h0 hn bn bn hP hP0 hQ hQ0
def arh:=fb Tn (cmp .lss (fn 7 (pr bR (.ar .add .i64 dz (.int 1)))) (fn 7 (pr bR dz)))<|aF fun ρ p0 p1 p2 p3=>by
 have:=ao p0
 obtain⟨w0,ew0,qw0⟩:=ab (E.I ρ dz+1)
 simp only[aa,ae,ew0]at *;omega
def ari:=fb Tn (.not (cmp .lss (fn 7 (pr bR (.ar .add .i64 dz (.int 1)))) (.int 0)))<|aF fun ρ p0 p1 p2 p3=>by
 have:=ao p0
 obtain⟨w0,ew0,qw0⟩:=ab (E.I ρ dz+1)
 simp only[aa,ae,ew0]at *;omega
def arj:=fb (km::awN::Th::Ti::aw1) aw2<|yW fun ρ p0 p1 p2 p3 p4 p5 p6 p7 p8 p9 am av az aD aJ aL aU bg bn bD bL bW cf cG=>by
 have hn:E.I ρ (.ar .add .i64 bB (.int 1))=E.I ρ bB+1:=by
  have:=ao bW
  have:=@dV ρ (fn 1 (pr ag (.int 31)))
  obtain⟨w,ew,qw⟩:=ab (E.I ρ bB+1)
  simp only[aa,ae,ew]at *;omega
 have h0:0<=E.I ρ bB:=by
  simp only[aa]at *;omega
 have h1:E.I ρ bB<(((aC ((E.var 1).den ρ)).length:Nat):Int):=by
  rw[<- @vW ρ ag]
  simp only[aa]at *;omega
 have hq:=@aKk _ _ _ br _ _ _ _ _ _ _ _ _ _ _ _ _ _ _ ([(pr aE ax),(pr aG bG),(pr dk cg),(pr dl bV),(pr dm ch),(pr dp ci),(pr dq cj),(pr dr ck),(pr dt cm),(pr du cn),(pr dv co),(pr It bO),(pr Ta bR)]) 0 (by decide) ⟨bD,bn,bg,aU,aL,aJ,aD,az,av,am,p9,p8,p6⟩ p3;have hq0:0<=E.I ρ bM:=by
  simp only[aa]at *;omega
 have g:¬E.B ρ (fn 33 (pr iM (fn 1 (pr cL bB))))=true:=by
  rw[<- gh];exact p1
 have u:E.I ρ (fn 254 (pr aB (pr ag (.ar .add .i64 bB (.int 1)))))=max 0 (E.I ρ (fn 254 (pr aB (pr ag bB)))-E.I ρ (fn 251 (pr aB (pr (fn 1 (pr (fn 28 (pr (pr aE ax) aA)) (fn 6 (pr (fn 8 (pr bM (.int 12))) (.int 1))))) (pr (fn 1 (pr (fn 28 (pr (pr aE ax) aA)) (fn 6 (pr (fn 8 (pr bM (.int 12))) (.int 3))))) (pr (fn 1 (pr (fn 28 (pr (pr aE ax) aA)) (fn 6 (pr (fn 8 (pr bM (.int 12))) (.int 6))))) (fn 1 (pr (fn 28 (pr (pr aE ax) aA)) (fn 6 (pr (fn 8 (pr bM (.int 12))) (.int 7))))))))))):=@afB _ _ _ _ _ _ _ _ (fn 28 (pr (pr aE ax) aA)) bL p5 p8 h0 h1 g hn bD hq hq0;simp only[aa]at p4 cf ⊢;omega
def ark:=fb (km::awN::Th::awL::aw1) aw2<|yW fun ρ p0 p1 p2 p3 p4 p5 p6 p7 p8 p9 am av az aD aJ aL aU bg bn bD bL bW cf cG=>by
 have hn:E.I ρ (.ar .add .i64 bB (.int 1))=E.I ρ bB+1:=by
  have:=ao bW
  have:=@dV ρ (fn 1 (pr ag (.int 31)))
  obtain⟨w,ew,qw⟩:=ab (E.I ρ bB+1)
  simp only[aa,ae,ew]at *;omega
 have h0:0<=E.I ρ bB:=by
  simp only[aa]at *;omega
 have h1:E.I ρ bB<(((aC ((E.var 1).den ρ)).length:Nat):Int):=by
  rw[<- @vW ρ ag]
  simp only[aa]at *;omega
 have hq:=@aKk _ _ _ br _ _ _ _ _ _ _ _ _ _ _ _ _ _ _ ([(pr aE ax),(pr aG bG),(pr dk cg),(pr dl bV),(pr dm ch),(pr dp ci),(pr dq cj),(pr dr ck),(pr dt cm),(pr du cn),(pr dv co),(pr It bO),(pr Ta bR)]) 1 (by decide) ⟨bD,bn,bg,aU,aL,aJ,aD,az,av,am,p9,p8,p6⟩ p3;have hq0:0<=E.I ρ bM:=by
  simp only[aa]at *;omega
 have g:¬E.B ρ (fn 33 (pr iM (fn 1 (pr cL bB))))=true:=by
  rw[<- gh];exact p1
 have u:E.I ρ (fn 254 (pr aB (pr ag (.ar .add .i64 bB (.int 1)))))=max 0 (E.I ρ (fn 254 (pr aB (pr ag bB)))-E.I ρ (fn 251 (pr aB (pr (fn 1 (pr (fn 28 (pr (pr aE ax) aA)) (fn 6 (pr (fn 8 (pr bM (.int 12))) (.int 1))))) (pr (fn 1 (pr (fn 28 (pr (pr aE ax) aA)) (fn 6 (pr (fn 8 (pr bM (.int 12))) (.int 3))))) (pr (fn 1 (pr (fn 28 (pr (pr aE ax) aA)) (fn 6 (pr (fn 8 (pr bM (.int 12))) (.int 6))))) (fn 1 (pr (fn 28 (pr (pr aE ax) aA)) (fn 6 (pr (fn 8 (pr bM (.int 12))) (.int 7))))))))))):=@afB _ _ _ _ _ _ _ _ (fn 28 (pr (pr aE ax) aA)) bL p5 p8 h0 h1 g hn bD hq hq0;simp only[aa]at p4 cf ⊢;omega
def arl:=fb [awO,Bh] (.not (cmp .lss bH (.int 0)))<|au fun ρ p0 p1=>by
 simp only[aa]at *;omega
def arm:=fb [awO,awa,awb,Bh] (.not (cmp .lss (.int 9999) bH))<|aF fun ρ p0 p1 p2 p3=>by
 have:=@Ae ρ (pr aB (pr (fn 1 (pr (fn 28 (pr (pr aE ax) aA)) (fn 6 (pr (fn 8 (pr bM (.int 12))) (.int 1))))) (pr (fn 1 (pr (fn 28 (pr (pr aE ax) aA)) (fn 6 (pr (fn 8 (pr bM (.int 12))) (.int 3))))) (pr (fn 1 (pr (fn 28 (pr (pr aE ax) aA)) (fn 6 (pr (fn 8 (pr bM (.int 12))) (.int 6))))) (fn 1 (pr (fn 28 (pr (pr aE ax) aA)) (fn 6 (pr (fn 8 (pr bM (.int 12))) (.int 7)))))))))
 simp only[aa]at *;omega
def p52:List Fa:=[ey,aqm,aqn,aqo,aqp,aqq,aqr,aqs,aqt,aqu,aqv,aqw,aqx,aqy,aqz,aqA,aqB,aqC,aqD,aqE,aqF,aqG,aqH,aqI,aqJ,aqK,aqL,aqM,aqN,aqO,aqP,aqQ,aqR,aqS,aqT,aqU,aqV,aqW,aqX,aqY,aqZ,aq0,aq1,aq2,aq3,aq4,aq5,aq6,aq7,aq8,aq9,ara,arb,arc,ard,arf,arg,arh,ari,arj,ark,arl,arm]
theorem aHF:aV Tryz.prog (bz (aGo)):=sc p52 ([⟨24,0,[tD0],none⟩,⟨24,2,[tD2 0,tD2 1],none⟩,⟨24,4,[tD4 0,tD4 1],none⟩]) acM (aES) (by kernel_rfl) (by kernel_rfl)
def acN:Nl:=nc aHF acM
end
end Go.Proofs.YtnggbcblogpnfaaGreat.combatDamages
