/-
  PayPays: contracts of functions, part 5.
-/
import Derived.Test.YtnnbmcfabojjjaaGreatPayPaysPartd
namespace Go.Proofs.YtnnbmcfabojjjaaGreat.payPays
open Go.ChangeShapes Go.WideShapes Go.ChangeAt Go.RowKit
open Go.SX
open Go.SX.E (fn pr cmp var)
set_option linter.unusedVariables false
set_option linter.unusedSimpArgs false
set_option maxRecDepth 100000
noncomputable section
abbrev Z0:E:=var 0
abbrev Z1:E:=var 8
abbrev Z2:E:=cmp .lss Z1 (fn 0 (fn 1 (pr Z0 (.int 31))))
abbrev Z3:E:=fn 117 Z0
abbrev Z4:E:=pr Z0 Z1
abbrev Z5:E:=fn 126 Z4
abbrev Z6:E:=pr Z0 (fn 0 (fn 1 (pr Z0 (.int 31))))
abbrev Z7:E:=fn 126 Z6
abbrev Z8:E:=cmp .eql (fn 1 (pr Z0 (.int 34))) (.int 0)
abbrev Z9:E:=cmp .eql (var 10) (fn 121 (pr (fn 1 (pr Z0 (.int 22))) (fn 1 (pr (fn 1 (pr Z0 (.int 31))) Z1))))
abbrev Ht:E:=cmp .eql (var 10) (.int 1)
abbrev Z11:E:=cmp .lss (.int 1) (fn 1 (pr Z0 (.int 34)))
abbrev BP:E:=.not Z11
abbrev Z13:E:=cmp .lss (fn 1 (pr Z0 (.int 34))) (.int 0)
abbrev BR:E:=.not Z13
abbrev Z15:E:=cmp .lss Z1 (.int 0)
abbrev Z16:E:=.not Z15
abbrev Hx:=[Z16]
abbrev Pz:=Z5::Hx
abbrev Z19:=BR::Pz
abbrev Z20:=BP::Z19
abbrev rq:E:=.bool false
abbrev PA:E:=fn 129 Z0
abbrev rr:E:=.iff rq PA
abbrev Z24:E:=cmp .eql (var 10) (fn 121 (pr (fn 1 (pr Z0 (.int 8))) (fn 1 (pr (fn 1 (pr Z0 (.int 31))) Z1))))
abbrev BS:E:=var 9
abbrev PB:E:=cmp .eql BS (fn 121 (pr (fn 1 (pr Z0 (.int 31))) (fn 1 (pr (fn 1 (pr Z0 (.int 31))) Z1))))
abbrev PC:E:=cmp .eql BS (.int 1)
abbrev bJ:E:=var 16
abbrev uy:E:=cmp .lss bJ (fn 9 (pr (fn 1 (pr Z0 (.int 32))) (.int 2)))
abbrev Z30:E:=pr Z0 bJ
abbrev Z31:E:=fn 127 Z30
abbrev xm:E:=.bool true
abbrev Z33:=Z3::Pz
abbrev Z34:E:=pr Z0 (.ar .add .i64 Z1 (.int 1))
abbrev Z35:E:=fn 126 Z34
abbrev ru:E:=var 17
abbrev BT:E:=cmp .eql ru (fn 121 (pr (fn 1 (pr Z0 (.int 31))) (fn 1 (pr (fn 1 (pr Z0 (.int 32))) (fn 6 (pr (fn 8 (pr bJ (.int 2))) (.int 1)))))))
abbrev BU:E:=cmp .eql ru (.int 1)
abbrev Hy:E:=cmp .eql (.ar .sub .i64 (.int 1) (fn 1 (pr Z0 (.int 34)))) (.int 0)
abbrev BV:E:=var 18
abbrev Z41:E:=cmp .eql BV (fn 121 (pr (fn 1 (pr Z0 (.int 22))) (fn 1 (pr (fn 1 (pr Z0 (.int 32))) (fn 6 (pr (fn 8 (pr bJ (.int 2))) (.int 0)))))))
abbrev Z42:E:=cmp .eql BV (.int 1)
abbrev uz:E:=.not (cmp .lss bJ (.int 0))
abbrev Z44:=[BP,BR]
abbrev Z45:=uz::Z44
abbrev PD:=uy::Z45
abbrev Z47:List E:=(.not Z42)::PD
abbrev Z48:=Z42::PD
abbrev PE:E:=fn 136 Z30
abbrev Z50:E:=cmp .eql BV (fn 121 (pr (fn 1 (pr Z0 (.int 8))) (fn 1 (pr (fn 1 (pr Z0 (.int 32))) (fn 6 (pr (fn 8 (pr bJ (.int 2))) (.int 0)))))))
abbrev fS:E:=var 24
abbrev rx:E:=cmp .lss fS bJ
abbrev Z53:E:=.not rx
abbrev Z54:E:=cmp .lss bJ fS
abbrev Z55:E:=.not Z54
abbrev xn:E:=.not (cmp .lss fS (.int 0))
abbrev Z57:=[xn,uy]
abbrev Z58:=Z55::Z57
abbrev Z59:=Z53::Z58
abbrev Hz:=Z3::Z59
abbrev Z61:E:=cmp .lss (.ar .add .i64 bJ (.int 1)) (.int 0)
abbrev Z62:E:=.not Z61
abbrev PF:E:=cmp .eql (fn 1 (pr (fn 1 (pr Z0 (.int 32))) (fn 6 (pr (fn 8 (pr fS (.int 2))) (.int 1))))) (fn 1 (pr (fn 1 (pr Z0 (.int 32))) (fn 6 (pr (fn 8 (pr bJ (.int 2))) (.int 1)))))
abbrev Z64:E:=cmp .eql (fn 1 (pr (fn 1 (pr Z0 (.int 32))) (fn 6 (pr (fn 8 (pr fS (.int 2))) (.int 0))))) (fn 1 (pr (fn 1 (pr Z0 (.int 32))) (fn 6 (pr (fn 8 (pr bJ (.int 2))) (.int 0)))))
abbrev HA:E:=fn 128 (pr Z0 (pr bJ fS))
abbrev Z66:=[uy,uz]
abbrev PG:=xn::Z66
abbrev Z68:=Z3::rx::PG
abbrev cK:=[Z3]
abbrev ck:E:=.iff rq (fn 130 Z0)
abbrev PH:E:=cmp .lss (.int 2) (fn 1 (pr Z0 (.int 37)))
abbrev PI:E:=cmp .lss (fn 1 (pr Z0 (.int 37))) (.int 0)
abbrev PJ:E:=cmp .lss (.int 1) (fn 1 (pr Z0 (.int 36)))
abbrev PK:E:=cmp .lss (fn 1 (pr Z0 (.int 36))) (.int (-1))
abbrev PL:E:=cmp .lss (.int 10) (fn 1 (pr Z0 (.int 35)))
abbrev PM:E:=cmp .lss (fn 1 (pr Z0 (.int 35))) (.int 0)
abbrev PN:E:=cmp .lss (.int 1000) (fn 1 (pr Z0 (.int 33)))
abbrev PO:E:=cmp .lss (fn 1 (pr Z0 (.int 33))) (.int 0)
abbrev HB:E:=cmp .lss Z1 (fn 9 (pr (fn 1 (pr Z0 (.int 29))) (.int 5)))
abbrev Z80:E:=pr (fn 1 (pr (fn 1 (pr Z0 (.int 29))) (fn 6 (pr (fn 8 (pr Z1 (.int 5))) (.int 4))))) rq
abbrev Z81:E:=pr (fn 1 (pr (fn 1 (pr Z0 (.int 29))) (fn 6 (pr (fn 8 (pr Z1 (.int 5))) (.int 3))))) Z80
abbrev Z82:E:=pr (fn 1 (pr (fn 1 (pr Z0 (.int 29))) (fn 6 (pr (fn 8 (pr Z1 (.int 5))) (.int 2))))) Z81
abbrev Z83:E:=pr (fn 1 (pr (fn 1 (pr Z0 (.int 29))) (fn 6 (pr (fn 8 (pr Z1 (.int 5))) (.int 1))))) Z82
abbrev Z84:E:=pr (fn 1 (pr (fn 1 (pr Z0 (.int 29))) (fn 6 (pr (fn 8 (pr Z1 (.int 5))) (.int 0))))) Z83
abbrev Z85:E:=fn 102 Z84
abbrev Z86:E:=.iff BS Z85
abbrev Z87:=HB::Hx
abbrev HC:=Z3::Z87
abbrev Z89:E:=pr (fn 1 (pr Z0 (.int 29))) (pr rq Z1)
abbrev Z90:E:=fn 103 Z89
abbrev HD:E:=fn 103 (pr (fn 1 (pr Z0 (.int 29))) (pr rq (fn 9 (pr (fn 1 (pr Z0 (.int 29))) (.int 5)))))
abbrev BW:E:=cmp .lss bJ (fn 9 (pr (fn 1 (pr Z0 (.int 30))) (.int 5)))
abbrev Z93:E:=pr (fn 1 (pr (fn 1 (pr Z0 (.int 30))) (fn 6 (pr (fn 8 (pr bJ (.int 5))) (.int 4))))) xm
abbrev Z94:E:=pr (fn 1 (pr (fn 1 (pr Z0 (.int 30))) (fn 6 (pr (fn 8 (pr bJ (.int 5))) (.int 3))))) Z93
abbrev Z95:E:=pr (fn 1 (pr (fn 1 (pr Z0 (.int 30))) (fn 6 (pr (fn 8 (pr bJ (.int 5))) (.int 2))))) Z94
abbrev Z96:E:=pr (fn 1 (pr (fn 1 (pr Z0 (.int 30))) (fn 6 (pr (fn 8 (pr bJ (.int 5))) (.int 1))))) Z95
abbrev Z97:E:=pr (fn 1 (pr (fn 1 (pr Z0 (.int 30))) (fn 6 (pr (fn 8 (pr bJ (.int 5))) (.int 0))))) Z96
abbrev Z98:E:=fn 102 Z97
abbrev Z99:E:=.iff ru Z98
abbrev Hu:=[BW,uz]
abbrev ahm:E:=cmp .lss (fn 1 (pr Z0 (.int 2))) (.int 0)
abbrev dT:E:=.not ahm
abbrev ahn:E:=cmp .lss (fn 1 (pr Z0 (.int 3))) (.int 0)
abbrev eA:E:=.not ahn
abbrev aho:E:=cmp .lss (fn 1 (pr Z0 (.int 4))) (.int 0)
abbrev fy:E:=.not aho
abbrev ahp:E:=cmp .lss (fn 1 (pr Z0 (.int 5))) (.int 0)
abbrev ahq:E:=cmp .lss (fn 1 (pr Z0 (.int 1))) (.int 0)
abbrev fQ:E:=.not ahq
abbrev ahr:E:=cmp .lss (.int 9999) (fn 1 (pr Z0 (.int 1)))
abbrev fR:E:=.not ahp
abbrev gc:E:=.not ahr
abbrev ahs:E:=cmp .lss (fn 1 (pr Z0 (.int 13))) (.int 0)
abbrev gn:E:=.not ahs
abbrev aht:E:=cmp .lss (.int 7) (fn 1 (pr Z0 (.int 13)))
abbrev gS:E:=.not aht
abbrev ahu:E:=cmp .lss (fn 1 (pr Z0 (.int 14))) (.int 0)
abbrev iq:E:=.not ahu
abbrev ahv:E:=cmp .lss (fn 1 (pr Z0 (.int 16))) (.int 0)
abbrev kF:E:=.not ahv
abbrev ahw:E:=cmp .lss (fn 1 (pr Z0 (.int 17))) (.int 0)
abbrev mK:E:=.not ahw
abbrev ahx:E:=cmp .lss (fn 1 (pr Z0 (.int 18))) (.int 0)
abbrev qa:E:=.not ahx
abbrev ahy:E:=cmp .lss (fn 1 (pr Z0 (.int 19))) (.int 0)
abbrev ahz:E:=cmp .lss (fn 1 (pr Z0 (.int 15))) (.int 0)
abbrev uw:E:=.not ahz
abbrev ahA:E:=cmp .lss (.int 9999) (fn 1 (pr Z0 (.int 15)))
abbrev ux:E:=.not ahy
abbrev xl:E:=.not ahA
abbrev ahB:E:=cmp .lss (fn 1 (pr Z0 (.int 27))) (.int 0)
abbrev BQ:E:=.not ahB
abbrev ahC:E:=cmp .lss (.int 7) (fn 1 (pr Z0 (.int 27)))
abbrev Hv:E:=.not ahC
abbrev Hw:E:=cmp .lss (fn 1 (pr Z0 (.int 28))) (.int 0)
abbrev ahD:E:=.iff ru (fn 125 Z0)
abbrev ahE:E:=cmp .lss (.int 99) (fn 1 (pr Z0 (.int 2)))
abbrev ahF:E:=cmp .lss (.int 99) (fn 1 (pr Z0 (.int 3)))
abbrev ahG:E:=cmp .lss (.int 99) (fn 1 (pr Z0 (.int 4)))
abbrev ahH:E:=cmp .lss (.int 99) (fn 1 (pr Z0 (.int 5)))
abbrev ahI:E:=cmp .lss (.int 255) (fn 1 (pr Z0 (.int 14)))
abbrev ahJ:E:=cmp .lss (.int 99) (fn 1 (pr Z0 (.int 16)))
abbrev ahK:E:=cmp .lss (.int 99) (fn 1 (pr Z0 (.int 17)))
abbrev ahL:E:=cmp .lss (.int 99) (fn 1 (pr Z0 (.int 18)))
abbrev ahM:E:=cmp .lss (.int 99) (fn 1 (pr Z0 (.int 19)))
abbrev ahN:E:=cmp .lss (.int 255) (fn 1 (pr Z0 (.int 28)))
abbrev Py:E:=fn 103 (pr (fn 1 (pr Z0 (.int 30))) (pr xm bJ))
def aCS:=fa ((fn 126 (pr Z0 (.int 0))))<|fun F=>by
 rfl
def aCT:=fb [(.not Z2),Z3,Z5,(.not (cmp .lss (fn 0 (fn 1 (pr Z0 (.int 31)))) Z1))] Z7<|am fun F p0 p1 p2 p3=>by
 have g0:E.I F (fn 0 (fn 1 (pr Z0 (.int 31))))=E.I F Z1:=by
  simp only[aa]at *;omega
 grind[a4L]
def aCU:=fb (Z2::(.not Z8)::Z9::(.not Ht)::Z20) rr<|b7 fun F p0 p1 p2 p3 p4 p5 p6 p7=>by
 have:=fun ha=>@zl F _ (fn 6 (pr Z1 (.int 1))) _ _ p6 _ rfl (yM ha).1
 simp only[aa]at *;grind
def aCV:=fb (Z2::Z8::Z24::(.not Ht)::Pz) rr<|bq fun F p0 p1 p2 p3 p4 p5=>by
 have:=fun ha=>@zl F _ (fn 6 (pr Z1 (.int 1))) _ _ p4 _ rfl (yL ha).1
 simp only[aa]at *;grind
def aCW:=fb (Z2::PB::(.not PC)::Z20) rr<|bL fun F p0 p1 p2 p3 p4 p5 p6=>by
 have:=fun ha=>@zl F _ (fn 6 (pr Z1 (.int 1))) _ _ p5 _ rfl (yL ha).1
 have:=fun ha=>@zl F _ (fn 6 (pr Z1 (.int 1))) _ _ p5 _ rfl (yM ha).1
 simp only[aa]at *;grind
def aCX:=fa ((fn 127 (pr Z0 (.int 0))))<|fun F=>by
 rfl
def aCY:=fb [(.not uy),Z31,Z7,(.not (cmp .lss (fn 9 (pr (fn 1 (pr Z0 (.int 32))) (.int 2))) bJ))] (.iff xm PA)<|am fun F p0 p1 p2 p3=>by
 have:=@a51 F _ _ p2 p1
 simp only[aa]at *;grind
def aCZ:=fb (Z2::PB::PC::(.not Z8)::Z9::Ht::BP::BR::Z33) Z35<|eW fun F p0 p1 p2 p3 p4 p5 p6 p7 p8 p9 ao=>by
 have:=ap p8
 have:=@ay F Z1 (.int 1)
 have:=fun ha=>@zl F _ (.ar .add .i64 Z1 (.int 1)) _ _ p9 _ rfl (yM ha).1
 simp only[aa]at *;grind
def aC0:=fb (Z2::PB::PC::Z8::Z24::Ht::Z33) Z35<|b8 fun F p0 p1 p2 p3 p4 p5 p6 p7 p8=>by
 have:=ap p6
 have:=@ay F Z1 (.int 1)
 have:=fun ha=>@zl F _ (.ar .add .i64 Z1 (.int 1)) _ _ p7 _ rfl (yL ha).1
 simp only[aa]at *;grind
def aC1:=fb (BT::BU::(.not Hy)::Z41::Z47) rr<|b8 fun F p0 p1 p2 p3 p4 p5 p6 p7 p8=>by
 have:=fun ha=>@zm F _ _ _ _ (fn 1 (pr (fn 1 (pr Z0 _)) (fn 6 (pr (fn 8 (pr bJ _)) _)))) rfl rfl (yL ha).2
 simp only[aa,ab]at *
 obtain⟨a,b,c⟩:=ae ((1)-(E.I F (fn 1 (pr Z0 (.int 34)))))
 grind
def aC2:=fb (BT::BU::(.not Hy)::Z41::Z48) PE<|b8 fun F p0 p1 p2 p3 p4 p5 p6 p7 p8=>by
 have:=fun ha=>@zm F _ _ _ _ (fn 1 (pr (fn 1 (pr Z0 _)) (fn 6 (pr (fn 8 (pr bJ _)) _)))) rfl rfl (yL ha).2
 simp only[aa,ab]at *
 obtain⟨a,b,c⟩:=ae ((1)-(E.I F (fn 1 (pr Z0 (.int 34)))))
 grind
def aC3:=fb (BT::BU::Hy::Z50::Z47) rr<|b8 fun F p0 p1 p2 p3 p4 p5 p6 p7 p8=>by
 have:=fun ha=>@zm F _ _ _ _ (fn 1 (pr (fn 1 (pr Z0 _)) (fn 6 (pr (fn 8 (pr bJ _)) _)))) rfl rfl (yM ha).2
 simp only[aa,ab]at *
 obtain⟨a,b,c⟩:=ae ((1)-(E.I F (fn 1 (pr Z0 (.int 34)))))
 grind
def aC4:=fb (BT::BU::Hy::Z50::Z48) PE<|b8 fun F p0 p1 p2 p3 p4 p5 p6 p7 p8=>by
 have:=fun ha=>@zm F _ _ _ _ (fn 1 (pr (fn 1 (pr Z0 _)) (fn 6 (pr (fn 8 (pr bJ _)) _)))) rfl rfl (yM ha).2
 simp only[aa,ab]at *
 obtain⟨a,b,c⟩:=ae ((1)-(E.I F (fn 1 (pr Z0 (.int 34)))))
 grind
def aC5:=fb (BT::(.not BU)::PD) rr<|bq fun F p0 p1 p2 p3 p4 p5=>by
 have:=fun ha=>@zm F _ _ _ _ (fn 1 (pr (fn 1 (pr Z0 _)) (fn 6 (pr (fn 8 (pr bJ _)) _)))) rfl rfl (yL ha).2
 have:=fun ha=>@zm F _ _ _ _ (fn 1 (pr (fn 1 (pr Z0 _)) (fn 6 (pr (fn 8 (pr bJ _)) _)))) rfl rfl (yM ha).2
 simp only[aa]at *;grind
def aC6:=fa ((fn 128 (pr Z0 (pr bJ (.int 0)))))<|fun F=>by
 rfl
def aC7:=fb [rx,uy] (cmp .lss fS (fn 9 (pr (fn 1 (pr Z0 (.int 32))) (.int 2))))<|ai fun F p0 p1=>by
 simp only[aa]at *;omega
def aC8:=fb Hz Z62<|aw fun F p0 p1 p2 p3 p4=>by
 have:=ap p0
 simp only[aa,ab]at *
 obtain⟨a,b,c⟩:=ae (E.I F bJ+1)
 omega
def aC9:=fb (rx::(.not PF)::Z64::HA::PG) rr<|bL fun F p0 p1 p2 p3 p4 p5 p6=>by
 have:=@Uc F _ _ (fn 6 (pr fS (.int 1))) _ p3 _ _ _ _ rfl rfl rfl rfl
 simp only[aa]at *;grind
def aDa:=fb Z68 (.not (cmp .lss (.ar .add .i64 fS (.int 1)) (.int 0)))<|aw fun F p0 p1 p2 p3 p4=>by
 have:=ap p0
 simp only[aa,ab]at *
 obtain⟨a,b,c⟩:=ae (E.I F fS+1)
 omega
def aDb:=fb (rx::PF::HA::PG) rr<|bq fun F p0 p1 p2 p3 p4 p5=>by
 have:=@Uc F _ _ (fn 6 (pr fS (.int 1))) _ p2 _ _ _ _ rfl rfl rfl rfl
 simp only[aa]at *;grind
def aDc:=fb Hz (.not (cmp .lss (fn 9 (pr (fn 1 (pr Z0 (.int 32))) (.int 2))) (.ar .add .i64 bJ (.int 1))))<|aw fun F p0 p1 p2 p3 p4=>by
 simp only[aa,ab]at *
 obtain⟨a,b,c⟩:=ae (E.I F bJ+1)
 omega
def aDd:=fb [rx,xn] (.not (cmp .lss bJ (.ar .add .i64 fS (.int 1))))<|ai fun F p0 p1=>by
 simp only[aa,ab]at *
 obtain⟨a,b,c⟩:=ae (E.I F fS+1)
 omega
def aDe:=fb (Z53::HA::PE::Z55::xn::Z31::uy::uz::cK) (fn 127 (pr Z0 (.ar .add .i64 bJ (.int 1))))<|b8 fun F p0 p1 p2 p3 p4 p5 p6 p7 p8=>by
 have:=ap p8
 have:=@ay F bJ (.int 1)
 have:=@a4M F _ _ (.ar .add .i64 bJ (.int 1)) _ p5 p2 p1
 simp only[aa]at *;grind
def aDf:=fb (rx::(.not PF)::(.not Z64)::HA::xn::uy::uz::cK) (fn 128 (pr Z0 (pr bJ (.ar .add .i64 fS (.int 1)))))<|b7 fun F p0 p1 p2 p3 p4 p5 p6 p7=>by
 have:=ap p7
 have:=@ay F fS (.int 1)
 have:=@Uc F _ _ (.ar .add .i64 fS (.int 1)) _ p3 _ _ _ _ rfl rfl rfl rfl
 simp only[aa]at *;grind
def aDg:=fb Hz (cmp .lss (fn 7 (pr (fn 9 (pr (fn 1 (pr Z0 (.int 32))) (.int 2))) (.ar .add .i64 bJ (.int 1)))) (fn 7 (pr (fn 9 (pr (fn 1 (pr Z0 (.int 32))) (.int 2))) bJ)))<|aw fun F p0 p1 p2 p3 p4=>by
 have:=ap p0
 simp only[aa,ab]at *
 obtain⟨a,b,c⟩:=ae (E.I F bJ+1)
 omega
def aDh:=fb Z68 (cmp .lss (fn 7 (pr bJ (.ar .add .i64 fS (.int 1)))) (fn 7 (pr bJ fS)))<|aw fun F p0 p1 p2 p3 p4=>by
 have:=ap p0
 simp only[aa,ab]at *
 obtain⟨a,b,c⟩:=ae (E.I F fS+1)
 omega
def aDi:=fb Hz (.not (cmp .lss (fn 7 (pr (fn 9 (pr (fn 1 (pr Z0 (.int 32))) (.int 2))) (.ar .add .i64 bJ (.int 1)))) (.int 0)))<|aw fun F p0 p1 p2 p3 p4=>by
 simp only[aa,ab]at *
 obtain⟨a,b,c⟩:=ae (E.I F bJ+1)
 omega
def aDj:=fb [rx,xn] (.not (cmp .lss (fn 7 (pr bJ (.ar .add .i64 fS (.int 1)))) (.int 0)))<|ai fun F p0 p1=>by
 simp only[aa,ab]at *
 obtain⟨a,b,c⟩:=ae (E.I F fS+1)
 omega
def kX:List Fa:=[Yh,Yj,aCS,Yp,Yq,aCT,aCU,Yi,aCV,aCW,aCX,Yk,Yd,aCY,aCZ,aC0,Yl,aC1,aC2,aC3,aC4,aC5,Ym,aC6,aC7,aC8,aC9,aDa,aDb,aDc,aDd,aDe,aDf,aDg,aDh,aDi,aDj]
theorem a2T:aI Tryz.prog (aX (a1P)):=sc kX (aVM) alO ([]) (by kernel_rfl) (by kernel_rfl)
def alP:Nl:=nc a2T alO
def aDk:=fb ((cmp .lss (.int 200) (fn 9 (pr (fn 1 (pr Z0 (.int 30))) (.int 5))))::cK) ck<|ai fun F p0 p1=>by
 have:=ap p1
 simp only[aa]at *;grind
def aDl:=fb ((cmp .lss (.int 200) (fn 9 (pr (fn 1 (pr Z0 (.int 29))) (.int 5))))::cK) ck<|ai fun F p0 p1=>by
 have:=ap p1
 simp only[aa]at *;grind
def aDm:=fb ((cmp .lss (.int 500) (fn 9 (pr (fn 1 (pr Z0 (.int 0))) (.int 12))))::cK) ck<|ai fun F p0 p1=>by
 have:=ap p1
 simp only[aa]at *;grind
def aDn:=fb [PH] ck<|aj fun F p0=>by
 have:=@cv F Z0
 simp only[aa]at *;grind
def aDo:=fb [PI] ck<|aj fun F p0=>by
 have:=@cv F Z0
 simp only[aa]at *;grind
def aDp:=fb [PJ] ck<|aj fun F p0=>by
 have:=@cv F Z0
 simp only[aa]at *;grind
def aDq:=fb [PK] ck<|aj fun F p0=>by
 have:=@cv F Z0
 simp only[aa]at *;grind
def aDr:=fb [PL] ck<|aj fun F p0=>by
 have:=@cv F Z0
 simp only[aa]at *;grind
def aDs:=fb [PM] ck<|aj fun F p0=>by
 have:=@cv F Z0
 simp only[aa]at *;grind
def aDt:=fb [PN] ck<|aj fun F p0=>by
 have:=@cv F Z0
 simp only[aa]at *;grind
def aDu:=fb [PO] ck<|aj fun F p0=>by
 have:=@cv F Z0
 simp only[aa]at *;grind
def aDv:=fb [Z11] ck<|aj fun F p0=>by
 have:=@cv F Z0
 simp only[aa]at *;grind
def aDw:=fb [Z13] ck<|aj fun F p0=>by
 have:=@cv F Z0
 simp only[aa]at *;grind
def aDx:=fa ((fn 103 (pr (fn 1 (pr Z0 (.int 29))) (pr rq (.int 0)))))<|fun F=>by
 rfl
def aDy:=fb (HB::Z86::(.not BS)::(.not PH)::(.not PI)::(.not PJ)::(.not PK)::(.not PL)::(.not PM)::(.not PN)::(.not PO)::BP::BR::Z3::Hx) ck<|CU fun F p0 p1 p2 p3 p4 p5 p6 p7 p8 p9 ao au az aE aM=>by
 have:=@cv F Z0
 have:=fun h0 h1=>@KK F _ _ (fn 9 (pr (fn 1 (pr Z0 (.int 29))) (.int 5))) _ h0 h1 (fn _ (pr (fn 1 _) (pr (fn 1 _) (pr (fn 1 _) (pr (fn 1 _) (pr (fn 1 (pr (fn 1 (pr Z0 (.int 29))) (fn 6 (pr (fn 8 (pr Z1 _)) _)))) rq)))))) rfl
 simp only[aa]at *;grind
def aDz:=fb HC (.not (cmp .lss (.ar .add .i64 Z1 (.int 1)) (.int 0)))<|ag fun F p0 p1 p2=>by
 have:=ap p0
 simp only[aa,ab]at *
 obtain⟨a,b,c⟩:=ae (E.I F Z1+1)
 omega
def vY:=fb cK (.not (cmp .lss (.int 20) (fn 9 (pr (fn 1 (pr Z0 (.int 30))) (.int 5)))))<|aj fun F p0=>by
 have:=ap p0
 simp only[aa]at *;omega
def aDA:=fb HC (.not (cmp .lss (fn 9 (pr (fn 1 (pr Z0 (.int 29))) (.int 5))) (.ar .add .i64 Z1 (.int 1))))<|ag fun F p0 p1 p2=>by
 simp only[aa,ab]at *
 obtain⟨a,b,c⟩:=ae (E.I F Z1+1)
 omega
def aDB:=fb [(.not HB),Z90] HD<|ai fun F p0 p1=>by
 have:=fun h1=>@KJ F _ _ (fn 9 (pr (fn 1 (pr Z0 (.int 29))) (.int 5))) _ p1 h1
 simp only[aa]at *;grind
def aDC:=fb (HB::Z86::BS::Z3::Z90::Hx) (fn 103 (pr (fn 1 (pr Z0 (.int 29))) (pr rq (.ar .add .i64 Z1 (.int 1)))))<|bq fun F p0 p1 p2 p3 p4 p5=>by
 have:=ap p3
 have:=@ay F Z1 (.int 1)
 have:=fun h0 hm=>@KL F _ _ (.ar .add .i64 Z1 (.int 1)) _ p4 h0 hm (fn _ (pr (fn 1 _) (pr (fn 1 _) (pr (fn 1 _) (pr (fn 1 _) (pr (fn 1 _) _)))))) rfl
 simp only[aa]at *;grind
def aDD:=fa ((fn 103 (pr (fn 1 (pr Z0 (.int 30))) (pr xm (.int 0)))))<|fun F=>by
 rfl
def aDE:=fb HC (cmp .lss (fn 7 (pr (fn 9 (pr (fn 1 (pr Z0 (.int 29))) (.int 5))) (.ar .add .i64 Z1 (.int 1)))) (fn 7 (pr (fn 9 (pr (fn 1 (pr Z0 (.int 29))) (.int 5))) Z1)))<|ag fun F p0 p1 p2=>by
 have:=ap p0
 simp only[aa,ab]at *
 obtain⟨a,b,c⟩:=ae (E.I F Z1+1)
 omega
def aDF:=fb (BW::Z99::(.not ru)::uz::HD::cK) ck<|bq fun F p0 p1 p2 p3 p4 p5=>by
 have:=@cv F Z0
 have:=fun h0 h1=>@KK F _ _ (fn 9 (pr (fn 1 (pr Z0 (.int 30))) (.int 5))) _ h0 h1 (fn _ (pr (fn 1 _) (pr (fn 1 _) (pr (fn 1 _) (pr (fn 1 _) (pr (fn 1 (pr (fn 1 (pr Z0 (.int 30))) (fn 6 (pr (fn 8 (pr bJ _)) _)))) xm)))))) rfl
 simp only[aa]at *;grind
def aDG:=fb (Z3::Hu) Z62<|ag fun F p0 p1 p2=>by
 have:=ap p0
 simp only[aa,ab]at *
 obtain⟨a,b,c⟩:=ae (E.I F bJ+1)
 omega
def aDH:=fb (ahm::cK) ck<|ai fun F p0 p1=>by
 have:=@cv F Z0
 simp only[aa]at *;grind
def aDI:=fb (dT::ahn::cK) ck<|ag fun F p0 p1 p2=>by
 have:=@cv F Z0
 simp only[aa]at *;grind
def aDJ:=fb (dT::eA::aho::cK) ck<|am fun F p0 p1 p2 p3=>by
 have:=@cv F Z0
 simp only[aa]at *;grind
def aDK:=fb (dT::eA::fy::ahp::cK) ck<|aw fun F p0 p1 p2 p3 p4=>by
 have:=@cv F Z0
 simp only[aa]at *;grind
def aDL:=fb (ahq::cK) ck<|ai fun F p0 p1=>by
 have:=@cv F Z0
 simp only[aa]at *;grind
def aDM:=fb (fQ::ahr::cK) ck<|ag fun F p0 p1 p2=>by
 have:=@cv F Z0
 simp only[aa]at *;grind
def aDN:=fb (dT::eA::fy::fR::fQ::gc::ahs::cK) ck<|b7 fun F p0 p1 p2 p3 p4 p5 p6 p7=>by
 have:=@cv F Z0
 simp only[aa]at *;grind
def aDO:=fb (dT::eA::fy::fR::fQ::gc::gn::aht::cK) ck<|b8 fun F p0 p1 p2 p3 p4 p5 p6 p7 p8=>by
 have:=@cv F Z0
 simp only[aa]at *;grind
def aDP:=fb (dT::eA::fy::fR::fQ::gc::gn::gS::ahu::cK) ck<|fA fun F p0 p1 p2 p3 p4 p5 p6 p7 p8 p9=>by
 have:=@cv F Z0
 simp only[aa]at *;grind
def aDQ:=fb (dT::eA::fy::fR::fQ::gc::gn::gS::iq::ahv::cK) ck<|eW fun F p0 p1 p2 p3 p4 p5 p6 p7 p8 p9 ao=>by
 have:=@cv F Z0
 simp only[aa]at *;grind
def aDR:=fb (dT::eA::fy::fR::fQ::gc::gn::gS::iq::kF::ahw::cK) ck<|jV fun F p0 p1 p2 p3 p4 p5 p6 p7 p8 p9 ao au=>by
 have:=@cv F Z0
 simp only[aa]at *;grind
def aDS:=fb (dT::eA::fy::fR::fQ::gc::gn::gS::iq::kF::mK::ahx::cK) ck<|jk fun F p0 p1 p2 p3 p4 p5 p6 p7 p8 p9 ao au az=>by
 have:=@cv F Z0
 simp only[aa]at *;grind
def aDT:=fb (dT::eA::fy::fR::fQ::gc::gn::gS::iq::kF::mK::qa::ahy::cK) ck<|u3 fun F p0 p1 p2 p3 p4 p5 p6 p7 p8 p9 ao au az aE=>by
 have:=@cv F Z0
 simp only[aa]at *;grind
def aDU:=fb (dT::eA::fy::fR::fQ::gc::gn::gS::iq::ahz::cK) ck<|eW fun F p0 p1 p2 p3 p4 p5 p6 p7 p8 p9 ao=>by
 have:=@cv F Z0
 simp only[aa]at *;grind
def aDV:=fb (dT::eA::fy::fR::fQ::gc::gn::gS::iq::uw::ahA::cK) ck<|jV fun F p0 p1 p2 p3 p4 p5 p6 p7 p8 p9 ao au=>by
 have:=@cv F Z0
 simp only[aa]at *;grind
def aDW:=fb (dT::eA::fy::fR::fQ::gc::gn::gS::iq::kF::mK::qa::ux::uw::xl::ahB::cK) ck<|x7 fun F p0 p1 p2 p3 p4 p5 p6 p7 p8 p9 ao au az aE aM aN bb=>by
 have:=@cv F Z0
 simp only[aa]at *;grind
def aDX:=fb (dT::eA::fy::fR::fQ::gc::gn::gS::iq::kF::mK::qa::ux::uw::xl::BQ::ahC::cK) ck<|CV fun F p0 p1 p2 p3 p4 p5 p6 p7 p8 p9 ao au az aE aM aN bb bl=>by
 have:=@cv F Z0
 simp only[aa]at *;grind
def aDY:=fb (dT::eA::fy::fR::fQ::gc::gn::gS::iq::kF::mK::qa::ux::uw::xl::BQ::Hv::Hw::cK) ck<|IW fun F p0 p1 p2 p3 p4 p5 p6 p7 p8 p9 ao au az aE aM aN bb bl bA=>by
 have:=@cv F Z0
 simp only[aa]at *;grind
def aDZ:=fb ((.not BW)::dT::eA::fy::fR::fQ::gc::gn::gS::iq::kF::mK::qa::ux::uw::xl::BQ::Hv::(.not Hw)::ahD::ru::(.iff BV PA)::(.not ahE)::(.not ahF)::(.not ahG)::(.not ahH)::(.not ahI)::(.not ahJ)::(.not ahK)::(.not ahL)::(.not ahM)::(.not ahN)::Py::HD::(.not PH)::(.not PI)::(.not PJ)::(.not PK)::(.not PL)::(.not PM)::(.not PN)::(.not PO)::BP::BR::cK) (.iff BV (fn 130 Z0))<|aYH fun F p0 p1 p2 p3 p4 p5 p6 p7 p8 p9 ao au az aE aM aN bb bl bA bH bP bZ cg cr cQ di dJ eJ fK gC iV kX kb oF oG vu vv vw vz vA vB vC vD vE sa=>by
 have:=ap sa
 have:=@cv F Z0
 have:=fun h1=>@KJ F _ _ (fn 9 (pr (fn 1 (pr Z0 (.int 30))) (.int 5))) _ kb h1
 simp only[aa]at *;grind
def aD0:=fb ((.not BW)::dT::eA::fy::fR::fQ::gc::gn::gS::iq::kF::mK::qa::ux::uw::xl::BQ::Hv::(.not Hw)::ahD::(.not ru)::Py::HD::cK) ck<|Ru fun F p0 p1 p2 p3 p4 p5 p6 p7 p8 p9 ao au az aE aM aN bb bl bA bH bP bZ cg cr=>by
 have:=@cv F Z0
 simp_all
def aD1:=fb (dT::eA::fy::fR::fQ::gc::gn::gS::iq::kF::mK::qa::ux::uw::xl::BQ::Hv::(.not Hw)::ahN::cK) ck<|ako fun F p0 p1 p2 p3 p4 p5 p6 p7 p8 p9 ao au az aE aM aN bb bl bA bH=>by
 have:=@cv F Z0
 simp only[aa]at *;grind
def aD2:=fb (dT::eA::fy::fR::fQ::gc::gn::gS::iq::kF::mK::qa::ux::ahM::cK) ck<|CU fun F p0 p1 p2 p3 p4 p5 p6 p7 p8 p9 ao au az aE aM=>by
 have:=@cv F Z0
 simp only[aa]at *;grind
def aD3:=fb (dT::eA::fy::fR::fQ::gc::gn::gS::iq::kF::mK::qa::ahL::cK) ck<|u3 fun F p0 p1 p2 p3 p4 p5 p6 p7 p8 p9 ao au az aE=>by
 have:=@cv F Z0
 simp only[aa]at *;grind
def aD4:=fb (dT::eA::fy::fR::fQ::gc::gn::gS::iq::kF::mK::ahK::cK) ck<|jk fun F p0 p1 p2 p3 p4 p5 p6 p7 p8 p9 ao au az=>by
 have:=@cv F Z0
 simp only[aa]at *;grind
def aD5:=fb (dT::eA::fy::fR::fQ::gc::gn::gS::iq::kF::ahJ::cK) ck<|jV fun F p0 p1 p2 p3 p4 p5 p6 p7 p8 p9 ao au=>by
 have:=@cv F Z0
 simp only[aa]at *;grind
def aD6:=fb (dT::eA::fy::fR::fQ::gc::gn::gS::iq::ahI::cK) ck<|eW fun F p0 p1 p2 p3 p4 p5 p6 p7 p8 p9 ao=>by
 have:=@cv F Z0
 simp only[aa]at *;grind
def aD7:=fb (dT::eA::fy::fR::ahH::cK) ck<|bq fun F p0 p1 p2 p3 p4 p5=>by
 have:=@cv F Z0
 simp only[aa]at *;grind
def aD8:=fb (dT::eA::fy::ahG::cK) ck<|aw fun F p0 p1 p2 p3 p4=>by
 have:=@cv F Z0
 simp only[aa]at *;grind
def aD9:=fb HC (.not (cmp .lss (fn 7 (pr (fn 9 (pr (fn 1 (pr Z0 (.int 29))) (.int 5))) (.ar .add .i64 Z1 (.int 1)))) (.int 0)))<|ag fun F p0 p1 p2=>by
 simp only[aa,ab]at *
 obtain⟨a,b,c⟩:=ae (E.I F Z1+1)
 omega
def YA:=fb Hu (.not (cmp .lss (fn 9 (pr (fn 1 (pr Z0 (.int 30))) (.int 5))) (.ar .add .i64 bJ (.int 1))))<|ai fun F p0 p1=>by
 simp only[aa,ab]at *
 obtain⟨a,b,c⟩:=ae (E.I F bJ+1)
 omega
def aEa:=fb (dT::eA::ahF::cK) ck<|am fun F p0 p1 p2 p3=>by
 have:=@cv F Z0
 simp only[aa]at *;grind
def aEb:=fb (dT::ahE::cK) ck<|ag fun F p0 p1 p2=>by
 have:=@cv F Z0
 simp only[aa]at *;grind
def aEc:=fb (BW::Z99::ru::Py::uz::cK) (fn 103 (pr (fn 1 (pr Z0 (.int 30))) (pr xm (.ar .add .i64 bJ (.int 1)))))<|bq fun F p0 p1 p2 p3 p4 p5=>by
 have:=ap p5
 have:=@ay F bJ (.int 1)
 have:=fun h0 hm=>@KL F _ _ (.ar .add .i64 bJ (.int 1)) _ p3 h0 hm (fn _ (pr (fn 1 _) (pr (fn 1 _) (pr (fn 1 _) (pr (fn 1 _) (pr (fn 1 _) _)))))) rfl
 simp only[aa]at *;grind
def aEd:=fb (Z3::Hu) (cmp .lss (fn 7 (pr (fn 9 (pr (fn 1 (pr Z0 (.int 30))) (.int 5))) (.ar .add .i64 bJ (.int 1)))) (fn 7 (pr (fn 9 (pr (fn 1 (pr Z0 (.int 30))) (.int 5))) bJ)))<|ag fun F p0 p1 p2=>by
 have:=ap p0
 simp only[aa,ab]at *
 obtain⟨a,b,c⟩:=ae (E.I F bJ+1)
 omega
def YB:=fb Hu (.not (cmp .lss (fn 7 (pr (fn 9 (pr (fn 1 (pr Z0 (.int 30))) (.int 5))) (.ar .add .i64 bJ (.int 1)))) (.int 0)))<|ai fun F p0 p1=>by
 simp only[aa,ab]at *
 obtain⟨a,b,c⟩:=ae (E.I F bJ+1)
 omega
def kb:List Fa:=[aDk,pd,aDl,aDm,aDn,aDo,aDp,aDq,aDr,aDs,aDt,aDu,aDv,aDw,aDx,aDy,aDz,vY,aDA,aDB,aDC,aDD,aDE,aDF,aDG,aDH,aDI,aDJ,aDK,aDL,aDM,aDN,aDO,aDP,aDQ,aDR,aDS,aDT,aDU,aDV,aDW,aDX,aDY,aDZ,aD0,aD1,aD2,aD3,aD4,aD5,aD6,aD7,aD8,aD9,YA,aEa,aEb,aEc,aEd,YB]
theorem a2U:aI Tryz.prog (aX (a1x)):=sc kb (aVF) alP ([]) (by kernel_rfl) (by kernel_rfl)
def alQ:Nl:=nc a2U alP
end
end Go.Proofs.YtnnbmcfabojjjaaGreat.payPays
