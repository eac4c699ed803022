/-
  CombatBlocks: contracts of functions, part 13.
-/
import Derived.Test.YtnggbcblogpnfaaGreatCombatBlocksPartl
namespace Go.Proofs.YtnggbcblogpnfaaGreat.combatBlocks
open Go.ChangeShapes Go.WideShapes Go.ChangeAt Go.RowKit
open Go.SX
open Go.SX.E (fn pr cmp var)
set_option linter.unusedVariables false
set_option linter.unusedSimpArgs false
set_option maxRecDepth 100000
noncomputable section
abbrev bQ:E:=var 0
abbrev au:E:=var 1
abbrev ij:E:=var 2
abbrev cA:E:=var 8
abbrev my:E:=cmp .lss cA (fn 9 (pr bQ (.int 2)))
abbrev qb:E:=.not (cmp .lss cA (.int 0))
abbrev JJ6:E:=cmp .lss (.int 1000) (fn 9 (pr bQ (.int 2)))
abbrev JJ7:E:=.not JJ6
abbrev JJ8:=[JJ7]
abbrev H2:=qb::JJ8
abbrev Rt:=my::H2
abbrev aw6:E:=cmp .eql au (fn 1 (pr bQ (fn 6 (pr (fn 8 (pr cA (.int 2))) (.int 0)))))
abbrev aw7:E:=cmp .eql ij (fn 1 (pr bQ (fn 6 (pr (fn 8 (pr cA (.int 2))) (.int 1)))))
abbrev axd:E:=.and aw7 (.bool true)
abbrev Ry:E:=.and aw6 axd
abbrev axi:E:=pr au (pr ij cA)
abbrev axn:E:=pr bQ axi
abbrev axr:E:=fn 229 axn
abbrev RJ:E:=.not axr
abbrev axs:E:=cmp .lss (fn 9 (pr bQ (.int 2))) cA
abbrev axt:E:=.not axs
abbrev RK:=[axt]
abbrev HW:E:=.bool false
abbrev axu:E:=pr ij (fn 9 (pr bQ (.int 2)))
abbrev axv:E:=pr au axu
abbrev axw:E:=pr bQ axv
abbrev RL:E:=fn 229 axw
abbrev RM:E:=cmp .eql (fn 1 (pr bQ (fn 6 (pr (fn 8 (pr cA (.int 2))) (.int 1))))) au
abbrev axx:E:=pr au (fn 9 (pr bQ (.int 2)))
abbrev axy:E:=pr bQ axx
abbrev RN:E:=fn 230 axy
abbrev axz:E:=pr bQ (pr au cA)
abbrev axA:E:=fn 230 axz
abbrev RO:E:=.not axA
abbrev vZ:E:=fn 117 au
abbrev gM:E:=fn 115 au
abbrev axB:E:=cmp .lss (.ar .sub .i64 (.int 1) (fn 1 (pr au (.int 34)))) (.int 0)
abbrev RP:E:=.not axB
abbrev axC:E:=cmp .lss (.int 1) (.ar .sub .i64 (.int 1) (fn 1 (pr au (.int 34))))
abbrev RQ:E:=.not axC
abbrev v6:E:=.iff ij gM
abbrev RR:E:=pr bQ au
abbrev At:E:=fn 232 (pr (fn 30 (.int 0)) RR)
abbrev RS:E:=pr (fn 1 (pr au (.int 31))) (fn 0 (fn 1 (pr au (.int 31))))
abbrev aG:E:=var 24
abbrev oC:E:=var 22
abbrev mz:E:=cmp .lss aG oC
abbrev oD:E:=.not (cmp .lss aG (.int 0))
abbrev bH:E:=var 21
abbrev HX:E:=fn 224 (pr bH (pr bQ (pr au (pr (.ar .sub .i64 (.int 1) (fn 1 (pr au (.int 34)))) (fn 9 (pr (fn 1 (pr au (.int 0))) (.int 12)))))))
abbrev jm:E:=cmp .eql (fn 0 bH) oC
abbrev RT:E:=.not mz
abbrev axD:E:=cmp .lss oC aG
abbrev RU:E:=.not axD
abbrev cr:E:=var 25
abbrev HY:E:=fn 152 (pr cr RS)
abbrev axE:E:=pr aG (.int 0)
abbrev axF:E:=pr cr axE
abbrev axG:E:=pr bH axF
abbrev axH:E:=pr au axG
abbrev RV:E:=pr bQ axH
abbrev axI:E:=pr (fn 10 (.int 0)) RV
abbrev axJ:E:=fn 227 axI
abbrev HZ:=[axJ]
abbrev axK:=gM::HZ
abbrev axL:=HY::axK
abbrev axM:=jm::axL
abbrev axN:=HX::axM
abbrev axO:=RU::axN
abbrev RW:=RT::axO
abbrev oE:E:=var 27
abbrev axP:E:=pr oE RV
abbrev RX:E:=fn 227 axP
abbrev H0:=[RX]
abbrev axQ:=gM::H0
abbrev axR:=HY::axQ
abbrev axS:=jm::axR
abbrev axT:=HX::axS
abbrev axU:=RU::axT
abbrev RY:=RT::axU
abbrev cw:E:=var 30
abbrev sE:E:=var 28
abbrev axV:E:=pr (fn 28 (pr (pr cw sE) oE)) RR
abbrev RZ:E:=fn 232 axV
abbrev oF:E:=.not (cmp .lss (.int 30) oC)
abbrev mA:E:=var 26
abbrev axW:E:=cmp .lss (.int 30) mA
abbrev H1:E:=.not axW
abbrev Au:E:=cmp .eql (fn 0 cr) mA
abbrev axX:=[jm,oF]
abbrev axY:=oD::axX
abbrev Av:=mz::axY
abbrev dt:E:=var 31
abbrev sF:E:=cmp .lss dt (fn 9 (pr (fn 1 (pr au (.int 32))) (.int 2)))
abbrev axZ:E:=cmp .lss dt (.int 0)
abbrev H3:E:=.not axZ
abbrev R0:=[H3]
abbrev ax0:=sF::R0
abbrev Aw:=vZ::ax0
abbrev R3:=[Au]
abbrev HN:=H1::R3
abbrev aw0:E:=pr (fn 1 (pr bH aG)) dt
abbrev aw1:E:=pr (fn 1 (pr au (.int 32))) aw0
abbrev aw2:E:=fn 231 aw1
abbrev Ru:E:=.not aw2
abbrev aw3:E:=pr (fn 1 (pr bH aG)) (fn 9 (pr (fn 1 (pr au (.int 32))) (.int 2)))
abbrev aw4:E:=pr (fn 1 (pr au (.int 32))) aw3
abbrev aw5:E:=fn 231 aw4
abbrev HO:E:=.not aw5
abbrev HP:E:=cmp .eql (fn 1 (pr (fn 1 (pr au (.int 32))) (fn 6 (pr (fn 8 (pr dt (.int 2))) (.int 0))))) (fn 1 (pr bH aG))
abbrev vV:E:=.not (cmp .lss cw (.int 0))
abbrev vW:E:=cmp .eql cw (fn 120 (pr au (pr (fn 1 (pr bH aG)) (fn 9 (pr (fn 1 (pr au (.int 0))) (.int 12))))))
abbrev HQ:E:=pr bQ (pr au (pr bH (pr cr (pr (.ar .add .i64 aG (.int 1)) (.int 0)))))
abbrev HR:E:=fn 227 (pr (fn 10 (.int 0)) HQ)
abbrev pY:E:=.not (fn 1 (pr (fn 1 (pr au (.int 0))) (fn 6 (pr (fn 8 (pr cw (.int 12))) (.int 9)))))
abbrev HS:E:=.imp (cmp .lss (.int 0) (fn 9 (pr (fn 1 (pr au (.int 32))) (.int 2)))) pY
abbrev Rv:E:=fn 227 (pr oE HQ)
abbrev aU:E:=var 32
abbrev ig:E:=cmp .lss aU mA
abbrev An:E:=.not (cmp .lss aU (.int 0))
abbrev aw8:E:=pr cr (pr aG aU)
abbrev aw9:E:=pr bH aw8
abbrev axa:E:=pr au aw9
abbrev Rw:E:=pr bQ axa
abbrev sA:E:=fn 227 (pr (fn 10 (.int 0)) Rw)
abbrev ee:E:=var 37
abbrev kZ:E:=.not (cmp .lss ee (.int 0))
abbrev k7:E:=cmp .eql ee (fn 120 (pr au (pr (fn 1 (pr cr aU)) (fn 9 (pr (fn 1 (pr au (.int 0))) (.int 12))))))
abbrev axb:=jm::HN
abbrev axc:=oD::axb
abbrev axe:=mz::axc
abbrev axf:=vW::axe
abbrev Rx:=vV::axf
abbrev Ao:=An::Rx
abbrev Ap:E:=pr bQ (pr au (pr bH (pr cr (pr aG (.ar .add .i64 aU (.int 1))))))
abbrev HT:E:=fn 227 (pr (fn 10 (.int 0)) Ap)
abbrev pZ:E:=var 38
abbrev sB:E:=.iff pZ (fn 222 (pr bQ (pr (fn 1 (pr (fn 1 (pr au (.int 0))) (fn 6 (pr (fn 8 (pr ee (.int 12))) (.int 1))))) (.int 2))))
abbrev vX:E:=var 39
abbrev Aq:E:=.iff vX (fn 222 (pr bQ (pr (fn 1 (pr (fn 1 (pr au (.int 0))) (fn 6 (pr (fn 8 (pr cw (.int 12))) (.int 1))))) (.int 2))))
abbrev qa:E:=cmp .lss (var 36) (.int 0)
abbrev sC:E:=.iff (.not qa) (fn 230 (pr (fn 1 (pr au (.int 32))) (pr (fn 1 (pr cr aU)) (fn 9 (pr (fn 1 (pr au (.int 32))) (.int 2))))))
abbrev RA:E:=.not (cmp .lss mA aU)
abbrev RB:=mz::oD::jm::oF::R3
abbrev vY:E:=var 34
abbrev axg:E:=cmp .lss vY (.int 1)
abbrev axh:E:=.not axg
abbrev RC:=[axh]
abbrev sD:E:=var 33
abbrev HU:E:=fn 227 (pr sD Rw)
abbrev axj:=HU::Rx
abbrev Ar:=An::axj
abbrev HV:E:=fn 227 (pr sD Ap)
abbrev axk:=HO::Ao
abbrev RD:=pY::axk
abbrev axl:E:=pr (fn 23 (pr (fn 1 (pr bH aG)) (fn 23 (pr (fn 1 (pr cr aU)) (fn 10 (.int 0)))))) Ap
abbrev RE:E:=fn 227 axl
abbrev axm:=An::HN
abbrev As:=ig::axm
abbrev RF:E:=cmp .eql (fn 0 sD) (fn 8 (pr vY (.int 2)))
abbrev axo:=HO::Ar
abbrev RG:=pY::axo
abbrev axp:E:=pr (fn 3 (pr sD (fn 23 (pr (fn 1 (pr bH aG)) (fn 23 (pr (fn 1 (pr cr aU)) (fn 10 (.int 0)))))))) Ap
abbrev RH:E:=fn 227 axp
abbrev axq:E:=cmp .eql (fn 9 (pr (fn 30 (.int 0)) (.int 2))) (.int 0)
abbrev RI:E:=.imp (.not gM) axq
def Rf:=fa ((.not (fn 229 (pr bQ (pr au (pr ij (.int 0)))))))<|fun F=>by
 have h:E.I F (.int 0)<=0:=by
  simp only[aa,and_true]at *;omega
 rw[aS]
 exact aM5 h
def Ah:=fb Rt (.not (cmp .lss (.ar .add .i64 cA (.int 1)) (.int 0)))<|aj fun F p0 p1 p2=>by
 have:=pw F (pr bQ (.int 2))
 try simp only[aa,ae]at *
 obtain⟨a6,ea6,qa6⟩:=ab ((E.I F cA)+(1))
 try simp only[ea6]at *
 omega
def Ai:=fb [my,qb] (.not (cmp .lss (fn 9 (pr bQ (.int 2))) (.ar .add .i64 cA (.int 1))))<|am fun F p0 p1=>by
 try simp only[aa,ae]at *
 obtain⟨a6,ea6,qa6⟩:=ab ((E.I F cA)+(1))
 try simp only[ea6]at *
 omega
def atC:=fb (my::(.not Ry)::RJ::H2) (.not (fn 229 (pr bQ (pr au (pr ij (.ar .add .i64 cA (.int 1)))))))<|aJ fun F p0 p1 p2 p3 p4=>by
 have hq:=p2
 rw[aS]at hq
 have h0:0<=E.I F cA:=by
  simp only[aa,and_true]at *;omega
 have hn:E.I F (.ar .add .i64 cA (.int 1))=E.I F cA+1:=by
  simp only[aa,ae,and_true]at *
  obtain⟨w,ew,qw⟩:=ab (E.I F cA+1)
  simp only[ew];omega
 have hc:¬(E.I F (fn 1 (pr bQ (fn 6 (pr (fn 8 (pr cA (.int 2))) (.int 0)))))=E.I F au/\E.I F (fn 1 (pr bQ (fn 6 (pr (fn 8 (pr cA (.int 2))) (.int 1)))))=E.I F ij):=by
  simp only[aa,and_true]at *;omega
 rw[aS]
 exact ahc hq h0 hn hc
def Aj:=fb Rt (cmp .lss (fn 7 (pr (fn 9 (pr bQ (.int 2))) (.ar .add .i64 cA (.int 1)))) (fn 7 (pr (fn 9 (pr bQ (.int 2))) cA)))<|aj fun F p0 p1 p2=>by
 have:=pw F (pr bQ (.int 2))
 try simp only[aa,ae]at *
 obtain⟨a6,ea6,qa6⟩:=ab ((E.I F cA)+(1))
 try simp only[ea6]at *
 omega
def Ak:=fb [my,qb] (.not (cmp .lss (fn 7 (pr (fn 9 (pr bQ (.int 2))) (.ar .add .i64 cA (.int 1)))) (.int 0)))<|am fun F p0 p1=>by
 try simp only[aa,ae]at *
 obtain⟨a6,ea6,qa6⟩:=ab ((E.I F cA)+(1))
 try simp only[ea6]at *
 omega
def Rg:=fb ((.not my)::RJ::RK) (.iff HW RL)<|aj fun F p0 p1 p2=>by
 have hq:=p1
 rw[aS]at hq
 have hn:E.I F (fn 9 (pr bQ (.int 2)))<=E.I F cA:=by
  simp only[aa,and_true]at *;omega
 have h9:=aM4 hq hn
 rw[bp]
 simp[h9,FX]
def atD:=fb [my,Ry,qb] (.iff qb RL)<|aj fun F p0 p1 p2=>by
 have h0:0<=E.I F cA:=by
  simp only[aa,and_true]at *;omega
 have hn:E.I F cA<E.I F (fn 9 (pr bQ (.int 2))):=by
  simp only[aa,and_true]at *;omega
 have hc:(E.I F (fn 1 (pr bQ (fn 6 (pr (fn 8 (pr cA (.int 2))) (.int 0)))))=E.I F au/\E.I F (fn 1 (pr bQ (fn 6 (pr (fn 8 (pr cA (.int 2))) (.int 1)))))=E.I F ij):=by
  simp only[aa,and_true]at *;omega
 have h9:=ahb h0 hn hc;simp only[aa,and_true,h9]at * <;> grind
def Fd:List Fa:=[df,Rf,Ah,Ai,atC,Aj,Ak,Rg,atD]
theorem aLn:aL Tryz.prog (bh (aJ0)):=sc Fd (aEW) aef ([]) (by kernel_rfl) (by kernel_rfl)
def aeg:Nl:=nc aLn aef
def atE:=fa ((.not (fn 230 (pr bQ (pr au (.int 0))))))<|fun F=>by
 have h:E.I F (.int 0)<=0:=by
  simp only[aa,and_true]at *;omega
 rw[aS]
 exact ahg h
def atF:=fb [my,RM,qb] (.iff qb RN)<|aj fun F p0 p1 p2=>by
 have h0:0<=E.I F cA:=by
  simp only[aa,and_true]at *;omega
 have hn:E.I F cA<E.I F (fn 9 (pr bQ (.int 2))):=by
  simp only[aa,and_true]at *;omega
 have hc:E.I F (fn 1 (pr bQ (fn 6 (pr (fn 8 (pr cA (.int 2))) (.int 1)))))=E.I F au:=by
  simp only[aa,and_true]at *;omega
 have h9:=ahe h0 hn hc;simp only[aa,and_true,h9]at * <;> grind
def atG:=fb ((.not my)::RO::RK) (.iff HW RN)<|aj fun F p0 p1 p2=>by
 have hq:=p1
 rw[aS]at hq
 have hn:E.I F (fn 9 (pr bQ (.int 2)))<=E.I F cA:=by
  simp only[aa,and_true]at *;omega
 have h9:=ahd hq hn
 rw[bp]
 simp[h9,FX]
def atH:=fb (my::(.not RM)::RO::H2) (.not (fn 230 (pr bQ (pr au (.ar .add .i64 cA (.int 1))))))<|aJ fun F p0 p1 p2 p3 p4=>by
 have hq:=p2
 rw[aS]at hq
 have h0:0<=E.I F cA:=by
  simp only[aa,and_true]at *;omega
 have hn:E.I F (.ar .add .i64 cA (.int 1))=E.I F cA+1:=by
  simp only[aa,ae,and_true]at *
  obtain⟨w,ew,qw⟩:=ab (E.I F cA+1)
  simp only[ew];omega
 have hc:¬E.I F (fn 1 (pr bQ (fn 6 (pr (fn 8 (pr cA (.int 2))) (.int 1)))))=E.I F au:=by
  simp only[aa,and_true]at *;omega
 rw[aS]
 exact ahf hq h0 hn hc
def p52:List Fa:=[df,atE,atF,Ah,atG,Ai,atH,Aj,Ak]
theorem aLo:aL Tryz.prog (bh (aJ2)):=sc p52 (aEY) aeg ([]) (by kernel_rfl) (by kernel_rfl)
def aeh:Nl:=nc aLo aeg
def atI:=fb [vZ] (.not (cmp .lss (.int 2147483648) (fn 0 (fn 1 (pr au (.int 31))))))<|ah fun F p0=>by
 have:=ai p0
 try simp only[aa,ae]at *
 omega
def atJ:=fb [gM] RP<|ah fun F p0=>by
 have:=iU p0
 obtain⟨wa,ewa,qwa⟩:=ab (1-E.I F (fn 1 (pr au (.int 34))))
 simp only[aa,ae,ewa]at *;omega
def atK:=fb [gM] RQ<|ah fun F p0=>by
 have:=iU p0
 obtain⟨wa,ewa,qwa⟩:=ab (1-E.I F (fn 1 (pr au (.int 34))))
 simp only[aa,ae,ewa]at *;omega
def atL:=fb [v6,(.not ij),gM] At<|aj fun F p0 p1 p2=>by
 try simp only[aa,ae]at *
 grind
def atM:=fa ((cmp .eql (fn 0 (fn 40 (fn 1 (pr au (.int 31))))) (fn 0 (fn 1 (pr au (.int 31))))))<|fun F=>by
 have:=@aHT F (fn 1 (pr au (.int 31)))
 try simp only[aa,ae]at *
 grind
def Ri:=fa ((.not (cmp .lss (.int 1000) (fn 9 (pr (fn 30 (.int 0)) (.int 2))))))<|fun F=>by
 have:=@aJz F (.int 0) 2
 try simp only[aa,ae]at *
 grind
def Rj:=fb [vZ] (.not (cmp .lss (.int 30) (fn 0 (fn 1 (pr au (.int 31))))))<|ah fun F p0=>by
 have:=ai p0
 try simp only[aa,ae]at *
 omega
def atN:=fa ((fn 152 (pr (fn 40 (fn 1 (pr au (.int 31)))) RS)))<|fun F=>by
 exact aMD
def atO:=fa ((fn 227 (pr (fn 10 (.int 0)) (pr bQ (pr au (pr (var 4) (pr (fn 40 (fn 1 (pr au (.int 31)))) (pr (.int 0) (.int 0)))))))))<|fun F=>by
 exact ag9 (by simp only[aa]at *;omega) (by simp only[aa]at *;omega)
def atP:=fb [mz,oD,HX,jm] (.not (cmp .lss (fn 120 (pr au (pr (fn 1 (pr bH aG)) (fn 9 (pr (fn 1 (pr au (.int 0))) (.int 12)))))) (.int 0)))<|aw fun F p0 p1 p2 p3=>by
 have h0:0<=E.I F aG:=by
  simp only[aa]at *;omega
 have h1:E.I F aG<E.I F (fn 0 bH):=by
  simp only[aa]at *;omega
 have:=iv p2 h0 h1
 simp only[aa]at *;omega
def atQ:=fb RW At<|cH fun F p0 p1 p2 p3 p4 p5 p6=>by
 have:=iU p5
 obtain⟨wa,ewa,qwa⟩:=ab (1-E.I F (fn 1 (pr au (.int 34))))
 have hp:E.I F (.ar .sub .i64 (.int 1) (fn 1 (pr au (.int 34))))=1-E.I F (fn 1 (pr au (.int 34))):=by
  simp only[ae,aa,ewa]at *;omega
 have hi:E.I F aG=E.I F (fn 0 bH):=by
  simp only[aa]at *;omega
 have h9:=vo p6 p2 p4 p5 hp hi rfl;exact Oc h9
def atS:=fb RY RZ<|cH fun F p0 p1 p2 p3 p4 p5 p6=>by
 have:=iU p5
 obtain⟨wa,ewa,qwa⟩:=ab (1-E.I F (fn 1 (pr au (.int 34))))
 have hp:E.I F (.ar .sub .i64 (.int 1) (fn 1 (pr au (.int 34))))=1-E.I F (fn 1 (pr au (.int 34))):=by
  simp only[ae,aa,ewa]at *;omega
 have hi:E.I F aG=E.I F (fn 0 bH):=by
  simp only[aa]at *;omega
 have h9:=vo p6 p2 p4 p5 hp hi rfl;exact Ob h9
def atT:=fa ((.not (fn 231 (pr (fn 1 (pr au (.int 32))) (pr (fn 1 (pr bH aG)) (.int 0))))))<|fun F=>by
 have h:E.I F (.int 0)<=0:=by
  simp only[aa,and_true]at *;omega
 rw[aS]
 exact ahj h
def atU:=fb [RX,jm,oF,H1,Au,(cmp .eql (fn 0 oE) (fn 8 (pr sE (.int 2)))),(.not (cmp .lss sE (.int 1)))] (.not (cmp .lss (.int 1000) (fn 9 (pr (fn 28 (pr (pr cw sE) oE)) (.int 2)))))<|cH fun F p0 p1 p2 p3 p4 p5 p6=>by
 have hB:E.I F (fn 0 bH)<=30:=by
  simp only[aa]at *;omega
 have hA:E.I F (fn 0 cr)<=30:=by
  simp only[aa]at *;omega
 have:=Gu p0 hB hA
 have hr:E.I F (fn 9 (pr (fn 28 (pr (pr cw sE) oE)) (.int 2)))=E.I F (fn 0 oE)/2:=rfl;simp only[aa]at *;omega
def atV:=fb Av (.not (cmp .lss (.ar .add .i64 aG (.int 1)) (.int 0)))<|aw fun F p0 p1 p2 p3=>by
 try simp only[aa,ae]at *
 have:=@bz F bH
 obtain⟨a3,ea3,qa3⟩:=ab ((E.I F aG)+(1))
 try simp only[ea3]at *
 omega
def atW:=fb Aw (.not (cmp .lss (.ar .add .i64 dt (.int 1)) (.int 0)))<|aj fun F p0 p1 p2=>by
 have:=ai p0
 try simp only[aa,ae]at *
 obtain⟨a2,ea2,qa2⟩:=ab ((E.I F dt)+(1))
 try simp only[ea2]at *
 omega
def atX:=fb HN (.not (cmp .lss mA (.int 0)))<|am fun F p0 p1=>by
 try simp only[aa,ae]at *
 have:=@bz F cr
 omega
def atY:=fb Av (.not (cmp .lss oC (.ar .add .i64 aG (.int 1))))<|aw fun F p0 p1 p2 p3=>by
 try simp only[aa,ae]at *
 have:=@bz F bH
 obtain⟨a3,ea3,qa3⟩:=ab ((E.I F aG)+(1))
 try simp only[ea3]at *
 omega
def atZ:=fb Aw (.not (cmp .lss (fn 9 (pr (fn 1 (pr au (.int 32))) (.int 2))) (.ar .add .i64 dt (.int 1))))<|aj fun F p0 p1 p2=>by
 have:=ai p0
 try simp only[aa,ae]at *
 obtain⟨a2,ea2,qa2⟩:=ab ((E.I F dt)+(1))
 try simp only[ea2]at *
 omega
def at1:=fb [(.not sF),Ru,(.not (cmp .lss (fn 9 (pr (fn 1 (pr au (.int 32))) (.int 2))) dt))] HO<|aj fun F p0 p1 p2=>by
 have hq:=p1
 rw[aS]at hq
 have hn:E.I F (fn 9 (pr (fn 1 (pr au (.int 32))) (.int 2)))<=E.I F dt:=by
  simp only[aa,and_true]at *;omega
 rw[aS]
 exact ahh hq hn
def at2:=fb (sF::HP::vV::vW::mz::oD::jm::oF::H3::HZ) HR<|eT fun F p0 p1 p2 p3 p4 p5 p6 p7 p8 p9=>by
 have h0:0<=E.I F aG:=by
  simp only[aa]at *;omega
 have h1:E.I F aG<E.I F (fn 0 bH):=by
  simp only[aa]at *;omega
 have hq:E.I F cw=E.I F (fn 120 (pr au (pr (fn 1 (pr bH aG)) (fn 9 (pr (fn 1 (pr au (.int 0))) (.int 12)))))):=by
  simp only[aa]at *;omega
 have hq0:0<=E.I F cw:=by
  simp only[aa]at *;omega
 have hn:E.I F (.ar .add .i64 aG (.int 1))=E.I F aG+1:=by
  simp only[aa,ae]at *
  obtain⟨w,ew,qw⟩:=ab (E.I F aG+1)
  simp only[ew];omega
 have g0:0<=E.I F dt:=by
  simp only[aa]at *;omega
 have g1:E.I F dt<E.I F (fn 9 (pr (fn 1 (pr au (.int 32))) (.int 2))):=by
  simp only[aa]at *;omega
 have g2:E.I F (fn 1 (pr (fn 1 (pr au (.int 32))) (fn 6 (pr (fn 8 (pr dt (.int 2))) (.int 0)))))=E.I F (fn 1 (pr bH aG)):=by
  simp only[aa]at *;omega
 have g:=Oa g0 g1 g2;exact Gw p9 h0 h1 rfl hn (fun y=>CO hq hq0 (Or.inr g) y)
def at3:=fb (sF::(.not HP)::vZ::Ru::R0) (.not (fn 231 (pr (fn 1 (pr au (.int 32))) (pr (fn 1 (pr bH aG)) (.ar .add .i64 dt (.int 1))))))<|aJ fun F p0 p1 p2 p3 p4=>by
 have hb:=(ai p2).2.2.1.2.2.1;have hq:=p3
 rw[aS]at hq
 have:=(ai p2).2.2.1.2.2.2.2
 have h0:0<=E.I F dt:=by
  simp only[aa,and_true]at *;omega
 have hn:E.I F (.ar .add .i64 dt (.int 1))=E.I F dt+1:=by
  simp only[aa,ae,and_true]at *
  obtain⟨w,ew,qw⟩:=ab (E.I F dt+1)
  simp only[ew];omega
 have hc:¬E.I F (fn 1 (pr (fn 1 (pr au (.int 32))) (fn 6 (pr (fn 8 (pr dt (.int 2))) (.int 0)))))=E.I F (fn 1 (pr bH aG)):=by
  simp only[aa,and_true]at *;omega
 rw[aS]
 exact ahi hq h0 hn hc
def at4:=fb ((fn 1 (pr (fn 1 (pr au (.int 0))) (fn 6 (pr (fn 8 (pr cw (.int 12))) (.int 9)))))::vV::vW::mz::oD::jm::oF::HZ) HR<|cR fun F p0 p1 p2 p3 p4 p5 p6 p7=>by
 have h0:0<=E.I F aG:=by
  simp only[aa]at *;omega
 have h1:E.I F aG<E.I F (fn 0 bH):=by
  simp only[aa]at *;omega
 have hq:E.I F cw=E.I F (fn 120 (pr au (pr (fn 1 (pr bH aG)) (fn 9 (pr (fn 1 (pr au (.int 0))) (.int 12)))))):=by
  simp only[aa]at *;omega
 have hq0:0<=E.I F cw:=by
  simp only[aa]at *;omega
 have hn:E.I F (.ar .add .i64 aG (.int 1))=E.I F aG+1:=by
  simp only[aa,ae]at *
  obtain⟨w,ew,qw⟩:=ab (E.I F aG+1)
  simp only[ew];omega
 exact Gw p7 h0 h1 rfl hn (fun y=>CO hq hq0 (Or.inl p0) y)
def at5:=fb [(.not sF),(.imp (cmp .lss (.int 0) dt) pY)] HS<|am fun F p0 p1=>by
 try simp only[aa,ae]at *
 grind
def at6:=fb (sF::HP::vV::vW::mz::oD::jm::oF::H3::H0) Rv<|eT fun F p0 p1 p2 p3 p4 p5 p6 p7 p8 p9=>by
 have h0:0<=E.I F aG:=by
  simp only[aa]at *;omega
 have h1:E.I F aG<E.I F (fn 0 bH):=by
  simp only[aa]at *;omega
 have hq:E.I F cw=E.I F (fn 120 (pr au (pr (fn 1 (pr bH aG)) (fn 9 (pr (fn 1 (pr au (.int 0))) (.int 12)))))):=by
  simp only[aa]at *;omega
 have hq0:0<=E.I F cw:=by
  simp only[aa]at *;omega
 have hn:E.I F (.ar .add .i64 aG (.int 1))=E.I F aG+1:=by
  simp only[aa,ae]at *
  obtain⟨w,ew,qw⟩:=ab (E.I F aG+1)
  simp only[ew];omega
 have g0:0<=E.I F dt:=by
  simp only[aa]at *;omega
 have g1:E.I F dt<E.I F (fn 9 (pr (fn 1 (pr au (.int 32))) (.int 2))):=by
  simp only[aa]at *;omega
 have g2:E.I F (fn 1 (pr (fn 1 (pr au (.int 32))) (fn 6 (pr (fn 8 (pr dt (.int 2))) (.int 0)))))=E.I F (fn 1 (pr bH aG)):=by
  simp only[aa]at *;omega
 have g:=Oa g0 g1 g2;exact Gw p9 h0 h1 rfl hn (fun y=>CO hq hq0 (Or.inr g) y)
def at7:=fb ((fn 1 (pr (fn 1 (pr au (.int 0))) (fn 6 (pr (fn 8 (pr cw (.int 12))) (.int 9)))))::vV::vW::mz::oD::jm::oF::H0) Rv<|cR fun F p0 p1 p2 p3 p4 p5 p6 p7=>by
 have h0:0<=E.I F aG:=by
  simp only[aa]at *;omega
 have h1:E.I F aG<E.I F (fn 0 bH):=by
  simp only[aa]at *;omega
 have hq:E.I F cw=E.I F (fn 120 (pr au (pr (fn 1 (pr bH aG)) (fn 9 (pr (fn 1 (pr au (.int 0))) (.int 12)))))):=by
  simp only[aa]at *;omega
 have hq0:0<=E.I F cw:=by
  simp only[aa]at *;omega
 have hn:E.I F (.ar .add .i64 aG (.int 1))=E.I F aG+1:=by
  simp only[aa,ae]at *
  obtain⟨w,ew,qw⟩:=ab (E.I F aG+1)
  simp only[ew];omega
 exact Gw p7 h0 h1 rfl hn (fun y=>CO hq hq0 (Or.inl p0) y)
def at8:=fb Av (cmp .lss (fn 7 (pr oC (.ar .add .i64 aG (.int 1)))) (fn 7 (pr oC aG)))<|aw fun F p0 p1 p2 p3=>by
 try simp only[aa,ae]at *
 have:=@bz F bH
 obtain⟨a3,ea3,qa3⟩:=ab ((E.I F aG)+(1))
 try simp only[ea3]at *
 omega
def at9:=fb [pY] (.imp (cmp .lss (.int 0) (.ar .add .i64 dt (.int 1))) pY)<|ah fun F p0=>by
 try simp only[aa,ae]at *
 obtain⟨a2,ea2,qa2⟩:=ab ((E.I F dt)+(1))
 try simp only[ea2]at *
 grind
def aua:=fb [vZ] (.not (cmp .lss (.int 1000) (fn 9 (pr (fn 1 (pr au (.int 32))) (.int 2)))))<|ah fun F p0=>by
 have:=ai p0
 try simp only[aa,ae]at *
 omega
def aub:=fb Av (.not (cmp .lss (fn 7 (pr oC (.ar .add .i64 aG (.int 1)))) (.int 0)))<|aw fun F p0 p1 p2 p3=>by
 try simp only[aa,ae]at *
 have:=@bz F bH
 obtain⟨a3,ea3,qa3⟩:=ab ((E.I F aG)+(1))
 try simp only[ea3]at *
 omega
def auc:=fb Aw (cmp .lss (fn 7 (pr (fn 9 (pr (fn 1 (pr au (.int 32))) (.int 2))) (.ar .add .i64 dt (.int 1)))) (fn 7 (pr (fn 9 (pr (fn 1 (pr au (.int 32))) (.int 2))) dt)))<|aj fun F p0 p1 p2=>by
 have:=ai p0
 try simp only[aa,ae]at *
 obtain⟨a2,ea2,qa2⟩:=ab ((E.I F dt)+(1))
 try simp only[ea2]at *
 omega
def aud:=fb [ig,An,HY,Au,gM] (.not (cmp .lss (fn 120 (pr au (pr (fn 1 (pr cr aU)) (fn 9 (pr (fn 1 (pr au (.int 0))) (.int 12)))))) (.int 0)))<|aJ fun F p0 p1 p2 p3 p4=>by
 have h0:0<=E.I F aU:=by
  simp only[aa]at *;omega
 have h1:E.I F aU<E.I F (fn 0 cr):=by
  simp only[aa]at *;omega
 have:=iu p4 p2 h0 h1
 simp only[aa]at *;omega
def aue:=fb Aw (.not (cmp .lss (fn 7 (pr (fn 9 (pr (fn 1 (pr au (.int 32))) (.int 2))) (.ar .add .i64 dt (.int 1)))) (.int 0)))<|aj fun F p0 p1 p2=>by
 have:=ai p0
 try simp only[aa,ae]at *
 obtain⟨a2,ea2,qa2⟩:=ab ((E.I F dt)+(1))
 try simp only[ea2]at *
 omega
def Rk:=fa ((cmp .eql (fn 8 (pr (.int 1) (.int 2))) (.int 2)))<|fun F=>by
 try simp only[aa,ae]at *
 omega
def auf:=fb (sA::ig::kZ::k7::(fn 1 (pr (fn 1 (pr au (.int 0))) (fn 6 (pr (fn 8 (pr cw (.int 12))) (.int 9)))))::Ao) HT<|gx fun F p0 p1 p2 p3 p4 p5 p6 p7 p8 p9 ak ao ap=>by
 have h0:0<=E.I F aG:=by
  simp only[aa]at *;omega
 have h1:E.I F aG<E.I F (fn 0 bH):=by
  simp only[aa]at *;omega
 have hq:E.I F cw=E.I F (fn 120 (pr au (pr (fn 1 (pr bH aG)) (fn 9 (pr (fn 1 (pr au (.int 0))) (.int 12)))))):=by
  simp only[aa]at *;omega
 have hq0:0<=E.I F cw:=by
  simp only[aa]at *;omega
 have k0:0<=E.I F aU:=by
  simp only[aa]at *;omega
 have k1:E.I F aU<E.I F (fn 0 cr):=by
  simp only[aa]at *;omega
 have hn:E.I F (.ar .add .i64 aU (.int 1))=E.I F aU+1:=by
  simp only[aa,ae]at *
  obtain⟨w,ew,qw⟩:=ab (E.I F aU+1)
  simp only[ew];omega
 have hr:E.I F ee=E.I F (fn 120 (pr au (pr (fn 1 (pr cr aU)) (fn 9 (pr (fn 1 (pr au (.int 0))) (.int 12)))))):=by
  simp only[aa]at *;omega
 have hr0:0<=E.I F ee:=by
  simp only[aa]at *;omega
 have ok:=@kp _ _ _ _ _ _ bQ hq hq0 hr hr0;have st:=eM p0 h0 h1 k0 k1 hn
 rw[ok]at st
 refine st.1 ?_;clear st ok;simp only[aa,bp,aS]at *;grind
def aug:=fb (sA::ig::kZ::k7::sB::pZ::Aq::(.not vX)::Ao) HT<|jF fun F p0 p1 p2 p3 p4 p5 p6 p7 p8 p9 ak ao ap az aC aD=>by
 have h0:0<=E.I F aG:=by
  simp only[aa]at *;omega
 have h1:E.I F aG<E.I F (fn 0 bH):=by
  simp only[aa]at *;omega
 have hq:E.I F cw=E.I F (fn 120 (pr au (pr (fn 1 (pr bH aG)) (fn 9 (pr (fn 1 (pr au (.int 0))) (.int 12)))))):=by
  simp only[aa]at *;omega
 have hq0:0<=E.I F cw:=by
  simp only[aa]at *;omega
 have k0:0<=E.I F aU:=by
  simp only[aa]at *;omega
 have k1:E.I F aU<E.I F (fn 0 cr):=by
  simp only[aa]at *;omega
 have hn:E.I F (.ar .add .i64 aU (.int 1))=E.I F aU+1:=by
  simp only[aa,ae]at *
  obtain⟨w,ew,qw⟩:=ab (E.I F aU+1)
  simp only[ew];omega
 have hr:E.I F ee=E.I F (fn 120 (pr au (pr (fn 1 (pr cr aU)) (fn 9 (pr (fn 1 (pr au (.int 0))) (.int 12)))))):=by
  simp only[aa]at *;omega
 have hr0:0<=E.I F ee:=by
  simp only[aa]at *;omega
 have ok:=@kp _ _ _ _ _ _ bQ hq hq0 hr hr0;have st:=eM p0 h0 h1 k0 k1 hn
 rw[ok]at st
 refine st.1 ?_;clear st ok;simp only[aa,bp,aS]at *;grind
def auh:=fb (sA::ig::sC::kZ::k7::(.not qa)::Ao) HT<|lP fun F p0 p1 p2 p3 p4 p5 p6 p7 p8 p9 ak ao ap az=>by
 have h0:0<=E.I F aG:=by
  simp only[aa]at *;omega
 have h1:E.I F aG<E.I F (fn 0 bH):=by
  simp only[aa]at *;omega
 have hq:E.I F cw=E.I F (fn 120 (pr au (pr (fn 1 (pr bH aG)) (fn 9 (pr (fn 1 (pr au (.int 0))) (.int 12)))))):=by
  simp only[aa]at *;omega
 have hq0:0<=E.I F cw:=by
  simp only[aa]at *;omega
 have k0:0<=E.I F aU:=by
  simp only[aa]at *;omega
 have k1:E.I F aU<E.I F (fn 0 cr):=by
  simp only[aa]at *;omega
 have hn:E.I F (.ar .add .i64 aU (.int 1))=E.I F aU+1:=by
  simp only[aa,ae]at *
  obtain⟨w,ew,qw⟩:=ab (E.I F aU+1)
  simp only[ew];omega
 have hr:E.I F ee=E.I F (fn 120 (pr au (pr (fn 1 (pr cr aU)) (fn 9 (pr (fn 1 (pr au (.int 0))) (.int 12)))))):=by
  simp only[aa]at *;omega
 have hr0:0<=E.I F ee:=by
  simp only[aa]at *;omega
 have ok:=@kp _ _ _ _ _ _ bQ hq hq0 hr hr0;have st:=eM p0 h0 h1 k0 k1 hn
 rw[ok]at st
 refine st.1 ?_;clear st ok;simp only[aa,bp,aS]at *;grind
def aui:=fb (sA::(.not ig)::RA::RB) HR<|cR fun F p0 p1 p2 p3 p4 p5 p6 p7=>by
 have h0:0<=E.I F aG:=by
  simp only[aa]at *;omega
 have h1:E.I F aG<E.I F (fn 0 bH):=by
  simp only[aa]at *;omega
 have hn:E.I F (.ar .add .i64 aG (.int 1))=E.I F aG+1:=by
  simp only[aa,ae]at *
  obtain⟨w,ew,qw⟩:=ab (E.I F aG+1)
  simp only[ew];omega
 have hm:E.I F aU=E.I F (fn 0 cr):=by
  simp only[aa]at *;omega
 exact Gv p0 h0 h1 hm hn rfl
def auj:=fb ((.not (cmp .lss (var 35) vY))::RC) (.not (cmp .lss (var 35) (.int 0)))<|am fun F p0 p1=>by
 try simp only[aa,ae]at *
 omega
def auk:=fb (ig::kZ::k7::(fn 1 (pr (fn 1 (pr au (.int 0))) (fn 6 (pr (fn 8 (pr cw (.int 12))) (.int 9)))))::Ar) HV<|gx fun F p0 p1 p2 p3 p4 p5 p6 p7 p8 p9 ak ao ap=>by
 have h0:0<=E.I F aG:=by
  simp only[aa]at *;omega
 have h1:E.I F aG<E.I F (fn 0 bH):=by
  simp only[aa]at *;omega
 have hq:E.I F cw=E.I F (fn 120 (pr au (pr (fn 1 (pr bH aG)) (fn 9 (pr (fn 1 (pr au (.int 0))) (.int 12)))))):=by
  simp only[aa]at *;omega
 have hq0:0<=E.I F cw:=by
  simp only[aa]at *;omega
 have k0:0<=E.I F aU:=by
  simp only[aa]at *;omega
 have k1:E.I F aU<E.I F (fn 0 cr):=by
  simp only[aa]at *;omega
 have hn:E.I F (.ar .add .i64 aU (.int 1))=E.I F aU+1:=by
  simp only[aa,ae]at *
  obtain⟨w,ew,qw⟩:=ab (E.I F aU+1)
  simp only[ew];omega
 have hr:E.I F ee=E.I F (fn 120 (pr au (pr (fn 1 (pr cr aU)) (fn 9 (pr (fn 1 (pr au (.int 0))) (.int 12)))))):=by
  simp only[aa]at *;omega
 have hr0:0<=E.I F ee:=by
  simp only[aa]at *;omega
 have ok:=@kp _ _ _ _ _ _ bQ hq hq0 hr hr0;have st:=eM p5 h0 h1 k0 k1 hn
 rw[ok]at st
 refine st.1 ?_;clear st ok;simp only[aa,bp,aS]at *;grind
def aul:=fb (ig::kZ::k7::sB::pZ::Aq::(.not vX)::Ar) HV<|jF fun F p0 p1 p2 p3 p4 p5 p6 p7 p8 p9 ak ao ap az aC aD=>by
 have h0:0<=E.I F aG:=by
  simp only[aa]at *;omega
 have h1:E.I F aG<E.I F (fn 0 bH):=by
  simp only[aa]at *;omega
 have hq:E.I F cw=E.I F (fn 120 (pr au (pr (fn 1 (pr bH aG)) (fn 9 (pr (fn 1 (pr au (.int 0))) (.int 12)))))):=by
  simp only[aa]at *;omega
 have hq0:0<=E.I F cw:=by
  simp only[aa]at *;omega
 have k0:0<=E.I F aU:=by
  simp only[aa]at *;omega
 have k1:E.I F aU<E.I F (fn 0 cr):=by
  simp only[aa]at *;omega
 have hn:E.I F (.ar .add .i64 aU (.int 1))=E.I F aU+1:=by
  simp only[aa,ae]at *
  obtain⟨w,ew,qw⟩:=ab (E.I F aU+1)
  simp only[ew];omega
 have hr:E.I F ee=E.I F (fn 120 (pr au (pr (fn 1 (pr cr aU)) (fn 9 (pr (fn 1 (pr au (.int 0))) (.int 12)))))):=by
  simp only[aa]at *;omega
 have hr0:0<=E.I F ee:=by
  simp only[aa]at *;omega
 have ok:=@kp _ _ _ _ _ _ bQ hq hq0 hr hr0;have st:=eM p8 h0 h1 k0 k1 hn
 rw[ok]at st
 refine st.1 ?_;clear st ok;simp only[aa,bp,aS]at *;grind
def aum:=fb (ig::sC::kZ::k7::(.not qa)::Ar) HV<|lP fun F p0 p1 p2 p3 p4 p5 p6 p7 p8 p9 ak ao ap az=>by
 have h0:0<=E.I F aG:=by
  simp only[aa]at *;omega
 have h1:E.I F aG<E.I F (fn 0 bH):=by
  simp only[aa]at *;omega
 have hq:E.I F cw=E.I F (fn 120 (pr au (pr (fn 1 (pr bH aG)) (fn 9 (pr (fn 1 (pr au (.int 0))) (.int 12)))))):=by
  simp only[aa]at *;omega
 have hq0:0<=E.I F cw:=by
  simp only[aa]at *;omega
 have k0:0<=E.I F aU:=by
  simp only[aa]at *;omega
 have k1:E.I F aU<E.I F (fn 0 cr):=by
  simp only[aa]at *;omega
 have hn:E.I F (.ar .add .i64 aU (.int 1))=E.I F aU+1:=by
  simp only[aa,ae]at *
  obtain⟨w,ew,qw⟩:=ab (E.I F aU+1)
  simp only[ew];omega
 have hr:E.I F ee=E.I F (fn 120 (pr au (pr (fn 1 (pr cr aU)) (fn 9 (pr (fn 1 (pr au (.int 0))) (.int 12)))))):=by
  simp only[aa]at *;omega
 have hr0:0<=E.I F ee:=by
  simp only[aa]at *;omega
 have ok:=@kp _ _ _ _ _ _ bQ hq hq0 hr hr0;have st:=eM p6 h0 h1 k0 k1 hn
 rw[ok]at st
 refine st.1 ?_;clear st ok;simp only[aa,bp,aS]at *;grind
def aun:=fb ((.not ig)::RA::HU::RB) (fn 227 (pr sD HQ))<|cR fun F p0 p1 p2 p3 p4 p5 p6 p7=>by
 have h0:0<=E.I F aG:=by
  simp only[aa]at *;omega
 have h1:E.I F aG<E.I F (fn 0 bH):=by
  simp only[aa]at *;omega
 have hn:E.I F (.ar .add .i64 aG (.int 1))=E.I F aG+1:=by
  simp only[aa,ae]at *
  obtain⟨w,ew,qw⟩:=ab (E.I F aG+1)
  simp only[ew];omega
 have hm:E.I F aU=E.I F (fn 0 cr):=by
  simp only[aa]at *;omega
 exact Gv p2 h0 h1 hm hn rfl
def auo:=fb (sA::ig::sC::kZ::k7::sB::pZ::Aq::qa::vX::RD) RE<|Ea fun F p0 p1 p2 p3 p4 p5 p6 p7 p8 p9 ak ao ap az aC aD aR aZ bl bE=>by
 have h0:0<=E.I F aG:=by
  simp only[aa]at *;omega
 have h1:E.I F aG<E.I F (fn 0 bH):=by
  simp only[aa]at *;omega
 have hq:E.I F cw=E.I F (fn 120 (pr au (pr (fn 1 (pr bH aG)) (fn 9 (pr (fn 1 (pr au (.int 0))) (.int 12)))))):=by
  simp only[aa]at *;omega
 have hq0:0<=E.I F cw:=by
  simp only[aa]at *;omega
 have k0:0<=E.I F aU:=by
  simp only[aa]at *;omega
 have k1:E.I F aU<E.I F (fn 0 cr):=by
  simp only[aa]at *;omega
 have hn:E.I F (.ar .add .i64 aU (.int 1))=E.I F aU+1:=by
  simp only[aa,ae]at *
  obtain⟨w,ew,qw⟩:=ab (E.I F aU+1)
  simp only[ew];omega
 have hr:E.I F ee=E.I F (fn 120 (pr au (pr (fn 1 (pr cr aU)) (fn 9 (pr (fn 1 (pr au (.int 0))) (.int 12)))))):=by
  simp only[aa]at *;omega
 have hr0:0<=E.I F ee:=by
  simp only[aa]at *;omega
 have ok:=@kp _ _ _ _ _ _ bQ hq hq0 hr hr0;have st:=eM p0 h0 h1 k0 k1 hn
 rw[ok]at st
 refine(st.2 ?_).2 rfl
 clear st ok;simp only[aa,bp,aS]at *;grind
def aup:=fb As (.not (cmp .lss (.ar .add .i64 aU (.int 1)) (.int 0)))<|aw fun F p0 p1 p2 p3=>by
 try simp only[aa,ae]at *
 have:=@bz F cr
 obtain⟨a3,ea3,qa3⟩:=ab ((E.I F aU)+(1))
 try simp only[ea3]at *
 omega
def auq:=fb (sA::ig::sC::kZ::k7::sB::(.not pZ)::qa::RD) RE<|tW fun F p0 p1 p2 p3 p4 p5 p6 p7 p8 p9 ak ao ap az aC aD aR aZ=>by
 have h0:0<=E.I F aG:=by
  simp only[aa]at *;omega
 have h1:E.I F aG<E.I F (fn 0 bH):=by
  simp only[aa]at *;omega
 have hq:E.I F cw=E.I F (fn 120 (pr au (pr (fn 1 (pr bH aG)) (fn 9 (pr (fn 1 (pr au (.int 0))) (.int 12)))))):=by
  simp only[aa]at *;omega
 have hq0:0<=E.I F cw:=by
  simp only[aa]at *;omega
 have k0:0<=E.I F aU:=by
  simp only[aa]at *;omega
 have k1:E.I F aU<E.I F (fn 0 cr):=by
  simp only[aa]at *;omega
 have hn:E.I F (.ar .add .i64 aU (.int 1))=E.I F aU+1:=by
  simp only[aa,ae]at *
  obtain⟨w,ew,qw⟩:=ab (E.I F aU+1)
  simp only[ew];omega
 have hr:E.I F ee=E.I F (fn 120 (pr au (pr (fn 1 (pr cr aU)) (fn 9 (pr (fn 1 (pr au (.int 0))) (.int 12)))))):=by
  simp only[aa]at *;omega
 have hr0:0<=E.I F ee:=by
  simp only[aa]at *;omega
 have ok:=@kp _ _ _ _ _ _ bQ hq hq0 hr hr0;have st:=eM p0 h0 h1 k0 k1 hn
 rw[ok]at st
 refine(st.2 ?_).2 rfl
 clear st ok;simp only[aa,bp,aS]at *;grind
def aur:=fb (HU::jm::oF::H1::Au::RF::RC) (.not (cmp .lss (.int 2147483648) (fn 6 (pr vY (.int 1)))))<|cH fun F p0 p1 p2 p3 p4 p5 p6=>by
 have hB:E.I F (fn 0 bH)<=30:=by
  simp only[aa]at *;omega
 have hA:E.I F (fn 0 cr)<=30:=by
  simp only[aa]at *;omega
 have:=Gu p0 hB hA
 simp only[aa]at *;omega
def aus:=fb As (.not (cmp .lss mA (.ar .add .i64 aU (.int 1))))<|aw fun F p0 p1 p2 p3=>by
 try simp only[aa,ae]at *
 have:=@bz F cr
 obtain⟨a3,ea3,qa3⟩:=ab ((E.I F aU)+(1))
 try simp only[ea3]at *
 omega
def aut:=fb [RF] (cmp .eql (fn 6 (pr (fn 0 sD) (.int 2))) (fn 8 (pr (fn 6 (pr vY (.int 1))) (.int 2))))<|ah fun F p0=>by
 try simp only[aa,ae]at *
 omega
def auu:=fb [HS] HS<|ah fun F p0=>by
 try simp only[aa,ae]at *
 grind
def auv:=fb (ig::sC::kZ::k7::sB::pZ::Aq::qa::vX::RG) RH<|Ea fun F p0 p1 p2 p3 p4 p5 p6 p7 p8 p9 ak ao ap az aC aD aR aZ bl bE=>by
 have h0:0<=E.I F aG:=by
  simp only[aa]at *;omega
 have h1:E.I F aG<E.I F (fn 0 bH):=by
  simp only[aa]at *;omega
 have hq:E.I F cw=E.I F (fn 120 (pr au (pr (fn 1 (pr bH aG)) (fn 9 (pr (fn 1 (pr au (.int 0))) (.int 12)))))):=by
  simp only[aa]at *;omega
 have hq0:0<=E.I F cw:=by
  simp only[aa]at *;omega
 have k0:0<=E.I F aU:=by
  simp only[aa]at *;omega
 have k1:E.I F aU<E.I F (fn 0 cr):=by
  simp only[aa]at *;omega
 have hn:E.I F (.ar .add .i64 aU (.int 1))=E.I F aU+1:=by
  simp only[aa,ae]at *
  obtain⟨w,ew,qw⟩:=ab (E.I F aU+1)
  simp only[ew];omega
 have hr:E.I F ee=E.I F (fn 120 (pr au (pr (fn 1 (pr cr aU)) (fn 9 (pr (fn 1 (pr au (.int 0))) (.int 12)))))):=by
  simp only[aa]at *;omega
 have hr0:0<=E.I F ee:=by
  simp only[aa]at *;omega
 have ok:=@kp _ _ _ _ _ _ bQ hq hq0 hr hr0;have st:=eM ap h0 h1 k0 k1 hn
 rw[ok]at st
 refine(st.2 ?_).1
 clear st ok;simp only[aa,bp,aS]at *;grind
def auw:=fb (ig::sC::kZ::k7::sB::(.not pZ)::qa::RG) RH<|tW fun F p0 p1 p2 p3 p4 p5 p6 p7 p8 p9 ak ao ap az aC aD aR aZ=>by
 have h0:0<=E.I F aG:=by
  simp only[aa]at *;omega
 have h1:E.I F aG<E.I F (fn 0 bH):=by
  simp only[aa]at *;omega
 have hq:E.I F cw=E.I F (fn 120 (pr au (pr (fn 1 (pr bH aG)) (fn 9 (pr (fn 1 (pr au (.int 0))) (.int 12)))))):=by
  simp only[aa]at *;omega
 have hq0:0<=E.I F cw:=by
  simp only[aa]at *;omega
 have k0:0<=E.I F aU:=by
  simp only[aa]at *;omega
 have k1:E.I F aU<E.I F (fn 0 cr):=by
  simp only[aa]at *;omega
 have hn:E.I F (.ar .add .i64 aU (.int 1))=E.I F aU+1:=by
  simp only[aa,ae]at *
  obtain⟨w,ew,qw⟩:=ab (E.I F aU+1)
  simp only[ew];omega
 have hr:E.I F ee=E.I F (fn 120 (pr au (pr (fn 1 (pr cr aU)) (fn 9 (pr (fn 1 (pr au (.int 0))) (.int 12)))))):=by
  simp only[aa]at *;omega
 have hr0:0<=E.I F ee:=by
  simp only[aa]at *;omega
 have ok:=@kp _ _ _ _ _ _ bQ hq hq0 hr hr0;have st:=eM ak h0 h1 k0 k1 hn
 rw[ok]at st
 refine(st.2 ?_).1
 clear st ok;simp only[aa,bp,aS]at *;grind
def aux:=fb As (cmp .lss (fn 7 (pr mA (.ar .add .i64 aU (.int 1)))) (fn 7 (pr mA aU)))<|aw fun F p0 p1 p2 p3=>by
 try simp only[aa,ae]at *
 have:=@bz F cr
 obtain⟨a3,ea3,qa3⟩:=ab ((E.I F aU)+(1))
 try simp only[ea3]at *
 omega
def auy:=fb As (.not (cmp .lss (fn 7 (pr mA (.ar .add .i64 aU (.int 1)))) (.int 0)))<|aw fun F p0 p1 p2 p3=>by
 try simp only[aa,ae]at *
 have:=@bz F cr
 obtain⟨a3,ea3,qa3⟩:=ab ((E.I F aU)+(1))
 try simp only[ea3]at *
 omega
def auz:=fb [(fn 116 au)] (.imp HW pY)<|ah fun F p0=>by
 try simp only[aa,ae]at *
 try simp only[ea12]at *
 grind
def auA:=fb [v6,(.not ij)] (.imp gM At)<|am fun F p0 p1=>by
 simp only[bp,aS,bu]at *;grind
def auB:=fb [v6,ij] gM<|am fun F p0 p1=>by
 simp only[aa,bp,aS]at *;grind
def auC:=fb [(.not ij)] RI<|ah fun F p0=>by
 rw[bu]
 intro _
 rw[Dp]
 exact aJy
def auD:=fb [v6,ij] RP<|am fun F p0 p1=>by
 have h5:=p0
 rw[bp]at h5
 have:=iU (h5.1 p1)
 obtain⟨wa,ewa,qwa⟩:=ab (1-E.I F (fn 1 (pr au (.int 34))))
 simp only[aa,ae,ewa]at *;omega
def auE:=fb [v6,ij] RQ<|am fun F p0 p1=>by
 have h5:=p0
 rw[bp]at h5
 have:=iU (h5.1 p1)
 obtain⟨wa,ewa,qwa⟩:=ab (1-E.I F (fn 1 (pr au (.int 34))))
 simp only[aa,ae,ewa]at *;omega
def auF:=fb RW (.imp gM At)<|cH fun F p0 p1 p2 p3 p4 p5 p6=>by
 rw[bu]
 intro _
 have:=iU p5
 obtain⟨wa,ewa,qwa⟩:=ab (1-E.I F (fn 1 (pr au (.int 34))))
 have hp:E.I F (.ar .sub .i64 (.int 1) (fn 1 (pr au (.int 34))))=1-E.I F (fn 1 (pr au (.int 34))):=by
  simp only[ae,aa,ewa]at *;omega
 have hi:E.I F aG=E.I F (fn 0 bH):=by
  simp only[aa]at *;omega
 have h9:=vo p6 p2 p4 p5 hp hi rfl;exact Oc h9
def auG:=fb RY (.imp gM RZ)<|cH fun F p0 p1 p2 p3 p4 p5 p6=>by
 rw[bu]
 intro _
 have:=iU p5
 obtain⟨wa,ewa,qwa⟩:=ab (1-E.I F (fn 1 (pr au (.int 34))))
 have hp:E.I F (.ar .sub .i64 (.int 1) (fn 1 (pr au (.int 34))))=1-E.I F (fn 1 (pr au (.int 34))):=by
  simp only[ae,aa,ewa]at *;omega
 have hi:E.I F aG=E.I F (fn 0 bH):=by
  simp only[aa]at *;omega
 have h9:=vo p6 p2 p4 p5 hp hi rfl;exact Ob h9
def auH:=fb [gM] RI<|ah fun F p0=>by
 rw[bu]
 intro h;simp only[aS]at h;exact absurd p0 h
def auI:=fb [gM] (.imp (.not gM) (cmp .eql (fn 9 (pr (fn 28 (pr (pr cw sE) oE)) (.int 2))) (.int 0)))<|ah fun F p0=>by
 rw[bu]
 intro h;simp only[aS]at h;exact absurd p0 h
def p53:List Fa:=[df,atI,atJ,atK,atL,atM,Ri,Rj,atN,atO,atP,atQ,atS,atT,atU,atV,atW,atX,atY,atZ,at1,at2,at3,at4,at5,at6,at7,at8,at9,aua,aub,auc,aud,aue,Rk,auf,aug,auh,aui,auj,auk,aul,aum,aun,auo,aup,auq,aur,aus,aut,auu,auv,auw,aux,auy,auz,auA,auB,auC,auD,auE,auF,auG,auH,auI]
theorem aLp:aL Tryz.prog (bh (aJW)):=sc p53 (aEU) aeh ([.down kT]) (by kernel_rfl) (by kernel_rfl)
def aei:Nl:=nc aLp aeh
end
end Go.Proofs.YtnggbcblogpnfaaGreat.combatBlocks
