/-
  CombatBlocks: contracts of functions, part 14.
-/
import Derived.Test.YtnggbcblogpnfaaGreatCombatBlocksPartm
namespace Go.Proofs.YtnggbcblogpnfaaGreat.combatBlocks
open Go.ChangeShapes Go.WideShapes Go.ChangeAt Go.RowKit
open Go.SX
open Go.SX.E (fn pr cmp var)
set_option linter.unusedVariables false
set_option linter.unusedSimpArgs false
set_option maxRecDepth 100000
noncomputable section
abbrev bC:E:=var 8
abbrev aA:E:=var 0
abbrev Xx:E:=cmp .lss bC (fn 9 (pr aA (.int 2)))
abbrev av:E:=var 1
abbrev XX4:E:=cmp .eql (fn 1 (pr aA (fn 6 (pr (fn 8 (pr bC (.int 2))) (.int 0))))) av
abbrev bc:E:=var 2
abbrev XX6:E:=cmp .eql (fn 1 (pr aA (fn 6 (pr (fn 8 (pr bC (.int 2))) (.int 1))))) bc
abbrev B3:E:=.bool true
abbrev XX8:E:=.and XX6 B3
abbrev XO:E:=.and XX4 XX8
abbrev qm:E:=.not (cmp .lss bC (.int 0))
abbrev Xd:E:=pr (fn 1 (pr aA (.int 32))) (pr av (.int 0))
abbrev qo:E:=cmp .lss bC (fn 9 (pr (fn 1 (pr aA (.int 32))) (.int 2)))
abbrev Xh:E:=cmp .eql (fn 1 (pr (fn 1 (pr aA (.int 32))) (fn 6 (pr (fn 8 (pr bC (.int 2))) (.int 0))))) av
abbrev BL:E:=pr (fn 1 (pr aA (.int 32))) (pr av (fn 9 (pr (fn 1 (pr aA (.int 32))) (.int 2))))
abbrev JA:E:=fn 117 aA
abbrev aA6:=[qo,qm]
abbrev BO:=JA::aA6
abbrev BQ:E:=pr (fn 1 (pr aA (.int 32))) (pr av bC)
abbrev aBq:E:=cmp .lss (fn 9 (pr (fn 1 (pr aA (.int 32))) (.int 2))) bC
abbrev aBu:E:=.not aBq
abbrev Xz:=[aBu]
abbrev XC:E:=pr (fn 1 (pr aA (.int 32))) (pr av (.ar .add .i64 bC (.int 1)))
abbrev XD:E:=cmp .eql (fn 1 (pr (fn 1 (pr aA (.int 32))) (fn 6 (pr (fn 8 (pr bC (.int 2))) (.int 1))))) av
abbrev bw:E:=var 11
abbrev fw:E:=cmp .lss bw (fn 0 aA)
abbrev BX:E:=.not fw
abbrev tf:E:=cmp .eql bw (.int 0)
abbrev JC:E:=fn 152 (pr bC (pr aA bw))
abbrev fx:E:=var 9
abbrev xe:E:=cmp .eql fx bw
abbrev aBx:E:=cmp .lss (fn 0 aA) bw
abbrev aBy:E:=.not aBx
abbrev aBz:=[aBy]
abbrev XE:=xe::aBz
abbrev qv:E:=.not (cmp .lss (fn 0 aA) (.ar .add .i64 bw (.int 1)))
abbrev aq:E:=var 16
abbrev ka:E:=cmp .lss aq fx
abbrev jr:E:=.not (cmp .lss (.int 40) (fn 0 aA))
abbrev jt:E:=.not (cmp .lss aq (.int 0))
abbrev BY:E:=cmp .eql (fn 0 bC) fx
abbrev qx:=[BY,xe]
abbrev XF:=jt::qx
abbrev aBA:=jr::XF
abbrev aBB:=fw::aBA
abbrev BZ:=ka::aBB
abbrev aBC:E:=cmp .lss (.ar .add .i64 aq (.int 1)) (.int 0)
abbrev XG:E:=.not aBC
abbrev B0:E:=pr aA (.ar .add .i64 bw (.int 1))
abbrev JD:E:=cmp .lss (fn 1 (pr bC aq)) (fn 1 (pr aA bw))
abbrev JE:E:=fn 160 (pr bC (pr (fn 1 (pr aA bw)) aq))
abbrev oL:E:=cmp .lss (fn 7 (pr (fn 0 aA) (.ar .add .i64 bw (.int 1)))) (fn 7 (pr (fn 0 aA) bw))
abbrev mV:E:=.not (cmp .lss (fn 7 (pr (fn 0 aA) (.ar .add .i64 bw (.int 1)))) (.int 0))
abbrev qy:E:=.not ka
abbrev qz:E:=.not (cmp .lss fx aq)
abbrev aBD:E:=cmp .lss (.int 2147483648) aq
abbrev XH:E:=.not aBD
abbrev XI:=fw::jr::qx
abbrev B1:E:=cmp .eql (var 10) aq
abbrev mW:E:=cmp .eql aq (.int 0)
abbrev aBE:E:=cmp .lss bw (.int 1)
abbrev aBF:E:=.not aBE
abbrev XJ:=[aBF]
abbrev B2:=xe::XJ
abbrev aBG:=qz::B2
abbrev XK:=mW::aBG
abbrev aBH:=B1::XK
abbrev JF:=qy::aBH
abbrev aBI:=BY::B2
abbrev XL:=qz::aBI
abbrev aBJ:=jr::XL
abbrev aBK:=fw::aBJ
abbrev aBL:=B1::aBK
abbrev JG:=qy::aBL
abbrev aBM:E:=cmp .lss (.ar .add .i64 bw (.int 1)) (.int 1)
abbrev JH:E:=.not aBM
abbrev B4:E:=cmp .eql (fn 6 (pr (fn 7 (pr fx aq)) (.int 1))) (.int 0)
abbrev xf:=fw::jr::B2
abbrev aBN:=fw::XL
abbrev aBO:=B1::aBN
abbrev XM:=qy::aBO
abbrev aBP:=mW::XI
abbrev JI:=ka::aBP
abbrev JJ:=qy::XK
abbrev XN:=fw::B2
abbrev aBQ:=BY::XJ
abbrev aBR:=JC::aBQ
abbrev aBS:=jt::aBR
abbrev aBT:=qz::aBS
abbrev aBU:=JE::aBT
abbrev aBV:=jr::aBU
abbrev aBW:=fw::aBV
abbrev XP:=qy::aBW
abbrev aBX:E:=pr (fn 3 (pr (fn 4 (pr bC (pr (.int 0) aq))) (fn 3 (pr (fn 23 (pr (fn 1 (pr aA bw)) (fn 10 (.int 0)))) (fn 4 (pr bC (pr aq (fn 6 (pr aq (fn 7 (pr fx aq))))))))))) B0
abbrev XQ:E:=fn 152 aBX
abbrev aBY:=jr::JE::jt::JC::qx
abbrev XR:=fw::aBY
abbrev XS:E:=cmp .eql bc (.int 0)
abbrev kb:E:=fn 117 av
abbrev JK:E:=pr av (pr bc (.int 2))
abbrev BF:E:=.not (cmp .lss (.int 1) bc)
abbrev BG:E:=.not (cmp .lss bc (.int 0))
abbrev bG:E:=var 20
abbrev dB:E:=var 19
abbrev jZ:E:=cmp .lss bG (fn 0 dB)
abbrev gS:E:=var 21
abbrev xa:E:=cmp .eql gS (fn 120 (pr av (pr (fn 1 (pr dB bG)) (fn 9 (pr (fn 1 (pr av (.int 0))) (.int 12))))))
abbrev mT:E:=.not (cmp .lss bG (.int 0))
abbrev Jv:E:=fn 109 (pr dB JK)
abbrev j9:E:=fn 130 av
abbrev aAN:=[BG,j9]
abbrev aAO:=BF::aAN
abbrev Jw:=Jv::aAO
abbrev qn:E:=fn 145 (pr av bc)
abbrev BH:E:=.not jZ
abbrev aAP:E:=pr bc bG
abbrev aAQ:E:=pr av aAP
abbrev Xe:E:=pr aA aAQ
abbrev aAR:E:=pr (fn 10 (.int 0)) Xe
abbrev Xf:E:=fn 225 aAR
abbrev BI:E:=.not (cmp .lss (fn 0 dB) bG)
abbrev aAS:E:=pr bc (fn 9 (pr (fn 1 (pr av (.int 0))) (.int 12)))
abbrev aAT:E:=pr av aAS
abbrev Xg:E:=pr aA aAT
abbrev s6:E:=.not (cmp .lss (.int 40) (fn 0 dB))
abbrev f9:E:=var 17
abbrev aAU:E:=cmp .lss bG f9
abbrev Jx:E:=.not aAU
abbrev BJ:E:=cmp .eql (fn 0 aq) f9
abbrev aAV:=[Jx,BJ]
abbrev aAW:=s6::aAV
abbrev Xi:=mT::aAW
abbrev Jy:=[jZ,mT,s6]
abbrev qp:E:=var 18
abbrev oK:E:=var 22
abbrev Jz:=jZ::Xi
abbrev aAX:E:=pr aq Xe
abbrev aAY:E:=fn 225 aAX
abbrev Xj:=[aAY]
abbrev aB:E:=var 24
abbrev BM:E:=.iff oK (fn 223 (pr aA (fn 1 (pr (fn 1 (pr av (.int 0))) (fn 6 (pr (fn 8 (pr gS (.int 12))) (.int 1)))))))
abbrev aAZ:=s6::Jw
abbrev aA0:=mT::aAZ
abbrev Xk:=Xf::aA0
abbrev BN:E:=pr aA (pr av (pr bc (.ar .add .i64 bG (.int 1))))
abbrev aA1:=j9::Xj
abbrev aA2:=BG::aA1
abbrev aA3:=BF::aA2
abbrev aA4:=Jv::aA3
abbrev aA5:=s6::aA4
abbrev Xl:=mT::aA5
abbrev bN:E:=var 3
abbrev cW:E:=var 28
abbrev iP:E:=cmp .eql cW (fn 120 (pr av (pr (fn 1 (pr bc aq)) (fn 9 (pr (fn 1 (pr av (.int 0))) (.int 12))))))
abbrev qq:E:=fn 224 (pr bc (pr aA (pr av (pr (.ar .sub .i64 (.int 1) (fn 1 (pr av (.int 34)))) (fn 9 (pr (fn 1 (pr av (.int 0))) (.int 12)))))))
abbrev mU:E:=cmp .lss aq (fn 0 bc)
abbrev fv:E:=cmp .lss aB (fn 0 bN)
abbrev dm:E:=var 29
abbrev iQ:E:=cmp .eql dm (fn 120 (pr av (pr (fn 1 (pr bN aB)) (fn 9 (pr (fn 1 (pr av (.int 0))) (.int 12))))))
abbrev qr:E:=.not (cmp .lss aB (.int 0))
abbrev xb:E:=fn 152 (pr bN (pr (fn 1 (pr av (.int 31))) (fn 0 (fn 1 (pr av (.int 31))))))
abbrev aA7:E:=cmp .lss (.int 40) (fn 0 bc)
abbrev JB:E:=.not aA7
abbrev aA8:=[JB]
abbrev aA9:=jt::aA8
abbrev Xm:=mU::aA9
abbrev aBa:E:=pr aq (.int 0)
abbrev aBb:E:=pr bN aBa
abbrev aBc:E:=pr bc aBb
abbrev aBd:E:=pr av aBc
abbrev Xn:E:=pr aA aBd
abbrev aBe:E:=cmp .lss (fn 0 bc) aq
abbrev Xo:E:=.not aBe
abbrev aBf:E:=pr f9 Xn
abbrev Xp:E:=fn 227 aBf
abbrev s7:E:=cmp .eql (fn 0 bN) (fn 0 (fn 1 (pr av (.int 31))))
abbrev BP:E:=.not (cmp .lss (.int 30) (fn 0 (fn 1 (pr av (.int 31)))))
abbrev aBg:E:=pr aq aB
abbrev aBh:E:=pr bN aBg
abbrev aBi:E:=pr bc aBh
abbrev aBj:E:=pr av aBi
abbrev Xq:E:=pr aA aBj
abbrev aBk:E:=pr (fn 10 (.int 0)) Xq
abbrev Xr:E:=fn 227 aBk
abbrev aBl:E:=cmp .lss (fn 0 bN) aB
abbrev Xs:E:=.not aBl
abbrev aBm:E:=pr (.ar .add .i64 aq (.int 1)) (.int 0)
abbrev aBn:E:=pr bN aBm
abbrev aBo:E:=pr bc aBn
abbrev aBp:E:=pr av aBo
abbrev Xt:E:=pr aA aBp
abbrev xc:E:=var 26
abbrev aBr:E:=cmp .lss xc (.int 1)
abbrev aBs:E:=.not aBr
abbrev Xu:=[aBs]
abbrev s8:E:=var 25
abbrev aBt:E:=pr s8 Xq
abbrev Xv:E:=fn 227 aBt
abbrev Xw:=[Xv,mU]
abbrev s9:E:=.iff (var 30) (fn 231 (pr (fn 1 (pr av (.int 32))) (pr (fn 1 (pr (fn 1 (pr av (.int 0))) (fn 6 (pr (fn 8 (pr cW (.int 12))) (.int 0))))) (fn 9 (pr (fn 1 (pr av (.int 32))) (.int 2))))))
abbrev ta:=[Xr,qr,jt,xb,BP,s7,qq,j9,mU]
abbrev BR:E:=pr aA (pr av (pr bc (pr bN (pr aq (.ar .add .i64 aB (.int 1))))))
abbrev BS:E:=fn 227 (pr (fn 10 (.int 0)) BR)
abbrev Xy:E:=cmp .eql (fn 0 s8) (fn 8 (pr xc (.int 2)))
abbrev tc:=qr::jt::xb::BP::s7::qq::j9::Xw
abbrev BT:E:=fn 227 (pr s8 BR)
abbrev qt:E:=var 32
abbrev td:E:=.iff qt (fn 222 (pr aA (pr (fn 1 (pr (fn 1 (pr av (.int 0))) (fn 6 (pr (fn 8 (pr dm (.int 12))) (.int 1))))) (.int 2))))
abbrev xd:E:=var 33
abbrev BU:E:=.iff xd (fn 222 (pr aA (pr (fn 1 (pr (fn 1 (pr av (.int 0))) (fn 6 (pr (fn 8 (pr cW (.int 12))) (.int 1))))) (.int 2))))
abbrev qu:E:=cmp .eql (var 31) (.int 0)
abbrev te:E:=.iff qu (.not (fn 230 (pr (fn 1 (pr av (.int 32))) (pr (fn 1 (pr (fn 1 (pr av (.int 0))) (fn 6 (pr (fn 8 (pr dm (.int 12))) (.int 0))))) (fn 9 (pr (fn 1 (pr av (.int 32))) (.int 2)))))))
abbrev BV:E:=.not (fn 1 (pr (fn 1 (pr av (.int 0))) (fn 6 (pr (fn 8 (pr cW (.int 12))) (.int 9)))))
abbrev BW:E:=.not (var 30)
abbrev aBv:E:=pr (fn 23 (pr (fn 1 (pr (fn 1 (pr av (.int 0))) (fn 6 (pr (fn 8 (pr cW (.int 12))) (.int 0))))) (fn 23 (pr (fn 1 (pr (fn 1 (pr av (.int 0))) (fn 6 (pr (fn 8 (pr dm (.int 12))) (.int 0))))) (fn 10 (.int 0)))))) BR
abbrev XA:E:=fn 227 aBv
abbrev aBw:E:=pr (fn 3 (pr s8 (fn 23 (pr (fn 1 (pr (fn 1 (pr av (.int 0))) (fn 6 (pr (fn 8 (pr cW (.int 12))) (.int 0))))) (fn 23 (pr (fn 1 (pr (fn 1 (pr av (.int 0))) (fn 6 (pr (fn 8 (pr dm (.int 12))) (.int 0))))) (fn 10 (.int 0)))))))) BR
abbrev XB:E:=fn 227 aBw
def auJ:=fb [Xx,XO,qm] (.iff B3 (fn 229 (pr aA (pr av (pr bc (fn 9 (pr aA (.int 2))))))))<|aj fun F p0 p1 p2=>by
 have h0:0<=E.I F bC:=by
  simp only[aa,and_true]at *;omega
 have hn:E.I F bC<E.I F (fn 9 (pr aA (.int 2))):=by
  simp only[aa,and_true]at *;omega
 have hc:(E.I F (fn 1 (pr aA (fn 6 (pr (fn 8 (pr bC (.int 2))) (.int 0)))))=E.I F av/\E.I F (fn 1 (pr aA (fn 6 (pr (fn 8 (pr bC (.int 2))) (.int 1)))))=E.I F bc):=by
  simp only[aa,and_true]at *;omega
 have h9:=ahb h0 hn hc;simp only[aa,and_true,h9]at * <;> grind
def auK:=fb [Xx,(.not XO),(.not (fn 229 (pr aA (pr av (pr bc bC))))),qm,(.not (cmp .lss (.int 1000) (fn 9 (pr aA (.int 2)))))] (.not (fn 229 (pr aA (pr av (pr bc (.ar .add .i64 bC (.int 1)))))))<|aJ fun F p0 p1 p2 p3 p4=>by
 have hq:=p2
 rw[aS]at hq
 have h0:0<=E.I F bC:=by
  simp only[aa,and_true]at *;omega
 have hn:E.I F (.ar .add .i64 bC (.int 1))=E.I F bC+1:=by
  simp only[aa,ae,and_true]at *
  obtain⟨w,ew,qw⟩:=ab (E.I F bC+1)
  simp only[ew];omega
 have hc:¬(E.I F (fn 1 (pr aA (fn 6 (pr (fn 8 (pr bC (.int 2))) (.int 0)))))=E.I F av/\E.I F (fn 1 (pr aA (fn 6 (pr (fn 8 (pr bC (.int 2))) (.int 1)))))=E.I F bc):=by
  simp only[aa,and_true]at *;omega
 rw[aS]
 exact ahc hq h0 hn hc
def p54:List Fa:=[df,Rf,auJ,Ah,Rg,Ai,auK,Aj,Ak]
theorem aLq:aL Tryz.prog (bh (aJ9)):=sc p54 (aE2) aei ([]) (by kernel_rfl) (by kernel_rfl)
def aej:Nl:=nc aLq aei
def auL:=fa ((.not (fn 231 Xd)))<|fun F=>by
 have h:E.I F (.int 0)<=0:=by
  simp only[aa,and_true]at *;omega
 rw[aS]
 exact ahj h
def auM:=fb [qo,Xh,qm] (.iff B3 (fn 231 BL))<|aj fun F p0 p1 p2=>by
 have h0:0<=E.I F bC:=by
  simp only[aa,and_true]at *;omega
 have hn:E.I F bC<E.I F (fn 9 (pr (fn 1 (pr aA (.int 32))) (.int 2))):=by
  simp only[aa,and_true]at *;omega
 have hc:E.I F (fn 1 (pr (fn 1 (pr aA (.int 32))) (fn 6 (pr (fn 8 (pr bC (.int 2))) (.int 0)))))=E.I F av:=by
  simp only[aa,and_true]at *;omega
 have h9:=Oa h0 hn hc;simp only[aa,and_true,h9]at * <;> grind
def Rm:=fb BO (.not (cmp .lss (.ar .add .i64 bC (.int 1)) (.int 0)))<|aj fun F p0 p1 p2=>by
 have:=ai p0
 try simp only[aa,ae]at *
 obtain⟨a4,ea4,qa4⟩:=ab ((E.I F bC)+(1))
 try simp only[ea4]at *
 omega
def auN:=fb ((.not qo)::(.not (fn 231 BQ))::Xz) (.iff (.bool false) (fn 231 BL))<|aj fun F p0 p1 p2=>by
 have hq:=p1
 rw[aS]at hq
 have hn:E.I F (fn 9 (pr (fn 1 (pr aA (.int 32))) (.int 2)))<=E.I F bC:=by
  simp only[aa,and_true]at *;omega
 have h9:=ahh hq hn
 rw[bp]
 simp[h9,FX]
def Rn:=fb BO (.not (cmp .lss (fn 9 (pr (fn 1 (pr aA (.int 32))) (.int 2))) (.ar .add .i64 bC (.int 1))))<|aj fun F p0 p1 p2=>by
 have:=ai p0
 try simp only[aa,ae]at *
 obtain⟨a4,ea4,qa4⟩:=ab ((E.I F bC)+(1))
 try simp only[ea4]at *
 omega
def auO:=fb [qo,(.not Xh),(.not (fn 231 BQ)),qm,JA] (.not (fn 231 XC))<|aJ fun F p0 p1 p2 p3 p4=>by
 have hb:=(ai p4).2.2.1.2.2.1;have hq:=p2
 rw[aS]at hq
 have:=(ai p4).2.2.1.2.2.2.2
 have h0:0<=E.I F bC:=by
  simp only[aa,and_true]at *;omega
 have hn:E.I F (.ar .add .i64 bC (.int 1))=E.I F bC+1:=by
  simp only[aa,ae,and_true]at *
  obtain⟨w,ew,qw⟩:=ab (E.I F bC+1)
  simp only[ew];omega
 have hc:¬E.I F (fn 1 (pr (fn 1 (pr aA (.int 32))) (fn 6 (pr (fn 8 (pr bC (.int 2))) (.int 0)))))=E.I F av:=by
  simp only[aa,and_true]at *;omega
 rw[aS]
 exact ahi hq h0 hn hc
def Ro:=fb BO (cmp .lss (fn 7 (pr (fn 9 (pr (fn 1 (pr aA (.int 32))) (.int 2))) (.ar .add .i64 bC (.int 1)))) (fn 7 (pr (fn 9 (pr (fn 1 (pr aA (.int 32))) (.int 2))) bC)))<|aj fun F p0 p1 p2=>by
 have:=ai p0
 try simp only[aa,ae]at *
 obtain⟨a4,ea4,qa4⟩:=ab ((E.I F bC)+(1))
 try simp only[ea4]at *
 omega
def Rp:=fb BO (.not (cmp .lss (fn 7 (pr (fn 9 (pr (fn 1 (pr aA (.int 32))) (.int 2))) (.ar .add .i64 bC (.int 1)))) (.int 0)))<|aj fun F p0 p1 p2=>by
 have:=ai p0
 try simp only[aa,ae]at *
 obtain⟨a4,ea4,qa4⟩:=ab ((E.I F bC)+(1))
 try simp only[ea4]at *
 omega
def p55:List Fa:=[df,auL,auM,Rm,auN,Rn,auO,Ro,Rp]
theorem aLr:aL Tryz.prog (bh (aJV)):=sc p55 (aET) aej ([]) (by kernel_rfl) (by kernel_rfl)
def aek:Nl:=nc aLr aej
def auP:=fa ((.not (fn 230 Xd)))<|fun F=>by
 have h:E.I F (.int 0)<=0:=by
  simp only[aa,and_true]at *;omega
 rw[aS]
 exact ahg h
def auQ:=fb [qo,XD,qm,(fn 115 aA)] (.iff (cmp .eql (fn 1 (pr (fn 1 (pr aA (.int 32))) (fn 6 (pr (fn 8 (pr bC (.int 2))) (.int 0))))) (.int 0)) (.not (fn 230 BL)))<|aw fun F p0 p1 p2 p3=>by
 have h0:0<=E.I F bC:=by
  simp only[aa,and_true]at *;omega
 have hn:E.I F bC<E.I F (fn 9 (pr (fn 1 (pr aA (.int 32))) (.int 2))):=by
  simp only[aa,and_true]at *;omega
 have hc:E.I F (fn 1 (pr (fn 1 (pr aA (.int 32))) (fn 6 (pr (fn 8 (pr bC (.int 2))) (.int 1)))))=E.I F av:=by
  simp only[aa,and_true]at *;omega
 have h9:=ahe h0 hn hc
 have:=aFS p3 h0 hn
 rw[bp,aS]
 simp only[h9,not_true,iff_false];simp only[aa];omega
def auR:=fb ((.not qo)::(.not (fn 230 BQ))::Xz) (.iff B3 (.not (fn 230 BL)))<|aj fun F p0 p1 p2=>by
 have hq:=p1
 rw[aS]at hq
 have hn:E.I F (fn 9 (pr (fn 1 (pr aA (.int 32))) (.int 2)))<=E.I F bC:=by
  simp only[aa,and_true]at *;omega
 have h9:=ahd hq hn
 rw[bp]
 rw[aS]
 simp[h9,FX]
def auS:=fb [qo,(.not XD),(.not (fn 230 BQ)),qm,JA] (.not (fn 230 XC))<|aJ fun F p0 p1 p2 p3 p4=>by
 have hb:=(ai p4).2.2.1.2.2.1;have hq:=p2
 rw[aS]at hq
 have:=(ai p4).2.2.1.2.2.2.2
 have h0:0<=E.I F bC:=by
  simp only[aa,and_true]at *;omega
 have hn:E.I F (.ar .add .i64 bC (.int 1))=E.I F bC+1:=by
  simp only[aa,ae,and_true]at *
  obtain⟨w,ew,qw⟩:=ab (E.I F bC+1)
  simp only[ew];omega
 have hc:¬E.I F (fn 1 (pr (fn 1 (pr aA (.int 32))) (fn 6 (pr (fn 8 (pr bC (.int 2))) (.int 1)))))=E.I F av:=by
  simp only[aa,and_true]at *;omega
 rw[aS]
 exact ahf hq h0 hn hc
def p56:List Fa:=[df,auP,auQ,Rm,auR,Rn,auS,Ro,Rp]
theorem aLs:aL Tryz.prog (bh (aJZ)):=sc p56 (aEV) aek ([]) (by kernel_rfl) (by kernel_rfl)
def ael:Nl:=nc aLs aek
def auT:=fb [BX,tf] (fn 152 (pr (fn 30 (.int 0)) (pr aA (fn 0 aA))))<|am fun F p0 p1=>by
 exact aMA (by simp only[aa]at *;omega)
def auU:=fb (BX::JC::XE) (fn 152 (pr (fn 28 (pr (pr (var 12) fx) bC)) (pr aA (fn 0 aA))))<|aw fun F p0 p1 p2 p3=>by
 exact aMB p1 (by simp only[aa]at *;omega)
def auV:=fb [fw,tf] qv<|am fun F p0 p1=>by
 try simp only[aa,ae]at *
 obtain⟨a3,ea3,qa3⟩:=ab ((E.I F bw)+(1))
 try simp only[ea3]at *
 omega
def auW:=fb BZ XG<|bL fun F p0 p1 p2 p3 p4 p5=>by
 try simp only[aa,ae]at *
 have:=@bz F aA
 obtain⟨a8,ea8,qa8⟩:=ab ((E.I F aq)+(1))
 try simp only[ea8]at *
 omega
def auX:=fb [BX,tf] (cmp .eql (fn 0 aA) (.int 0))<|am fun F p0 p1=>by
 try simp only[aa,ae]at *
 have:=@bz F aA
 omega
def auY:=fb (BX::BY::XE) (cmp .eql (fn 0 bC) (fn 0 aA))<|aw fun F p0 p1 p2 p3=>by
 try simp only[aa,ae]at *
 omega
def auZ:=fb BZ (.not (cmp .lss fx (.ar .add .i64 aq (.int 1))))<|bL fun F p0 p1 p2 p3 p4 p5=>by
 try simp only[aa,ae]at *
 have:=@bz F aA
 obtain⟨a8,ea8,qa8⟩:=ab ((E.I F aq)+(1))
 try simp only[ea8]at *
 omega
def au0:=fb [fw,tf,jr] (fn 152 (pr (fn 23 (pr (fn 1 (pr aA bw)) (fn 10 (.int 0)))) B0))<|aj fun F p0 p1 p2=>by
 have:=@bJ F bw (.int 1)
 have:=@agT F aA (.int 0) bw (.ar .add .i64 bw (.int 1)) (fn 1 (pr aA bw)) rfl
 try simp only[aa,ae]at *
 grind
def au1:=fb (ka::JD::fw::jr::JE::XF) (fn 160 (pr bC (pr (fn 1 (pr aA bw)) (.ar .add .i64 aq (.int 1)))))<|cR fun F p0 p1 p2 p3 p4 p5 p6 p7=>by
 have:=@bJ F aq (.int 1)
 have:=@agX F bC aq (.ar .add .i64 aq (.int 1)) (fn 1 (pr aA bw))
 try simp only[aa,ae]at *
 grind
def au2:=fb [fw,jr,jt,xe] (.not (cmp .lss (.int 2147483648) (fn 6 (pr (fn 7 (pr fx aq)) (.int 1)))))<|aw fun F p0 p1 p2 p3=>by
 try simp only[aa,ae]at *
 have:=@bz F aA
 omega
def au3:=fb [tf] oL<|ah fun F p0=>by
 try simp only[aa,ae]at *
 obtain⟨a3,ea3,qa3⟩:=ab ((E.I F bw)+(1))
 try simp only[ea3]at *
 omega
def au4:=fb BZ (cmp .lss (fn 7 (pr fx (.ar .add .i64 aq (.int 1)))) (fn 7 (pr fx aq)))<|bL fun F p0 p1 p2 p3 p4 p5=>by
 try simp only[aa,ae]at *
 have:=@bz F aA
 obtain⟨a8,ea8,qa8⟩:=ab ((E.I F aq)+(1))
 try simp only[ea8]at *
 omega
def au5:=fb [fw,tf] mV<|am fun F p0 p1=>by
 try simp only[aa,ae]at *
 obtain⟨a3,ea3,qa3⟩:=ab ((E.I F bw)+(1))
 try simp only[ea3]at *
 omega
def au6:=fb (qy::fw::jr::qz::qx) XH<|bL fun F p0 p1 p2 p3 p4 p5=>by
 try simp only[aa,ae]at *
 have:=@bz F aA
 omega
def au7:=fb BZ (.not (cmp .lss (fn 7 (pr fx (.ar .add .i64 aq (.int 1)))) (.int 0)))<|bL fun F p0 p1 p2 p3 p4 p5=>by
 try simp only[aa,ae]at *
 have:=@bz F aA
 obtain⟨a8,ea8,qa8⟩:=ab ((E.I F aq)+(1))
 try simp only[ea8]at *
 omega
def au8:=fb (ka::XI) XH<|aJ fun F p0 p1 p2 p3 p4=>by
 try simp only[aa,ae]at *
 have:=@bz F aA
 omega
def au9:=fb (qy::B1::fw::jr::qz::qx) (.not (cmp .lss (.int 2147483648) (fn 6 (pr aq (.int 1)))))<|cH fun F p0 p1 p2 p3 p4 p5 p6=>by
 try simp only[aa,ae]at *
 have:=@bz F aA
 omega
def ava:=fb [fw,jr,xe] (.not (cmp .lss (.int 2147483648) (fn 6 (pr aq (fn 6 (pr (fn 7 (pr fx aq)) (.int 1)))))))<|aj fun F p0 p1 p2=>by
 try simp only[aa,ae]at *
 have:=@bz F aA
 omega
def avb:=fb JF qv<|bL fun F p0 p1 p2 p3 p4 p5=>by
 try simp only[aa,ae]at *
 obtain⟨a7,ea7,qa7⟩:=ab ((E.I F bw)+(1))
 try simp only[ea7]at *
 omega
def avc:=fb JG JH<|cR fun F p0 p1 p2 p3 p4 p5 p6 p7=>by
 try simp only[aa,ae]at *
 have:=@bz F aA
 obtain⟨a8,ea8,qa8⟩:=ab ((E.I F bw)+(1))
 try simp only[ea8]at *
 omega
def avd:=fb [mW,B4,qz] oL<|aj fun F p0 p1 p2=>by
 try simp only[aa,ae]at *
 obtain⟨a7,ea7,qa7⟩:=ab ((E.I F bw)+(1))
 try simp only[ea7]at *
 omega
def ave:=fb xf JH<|aw fun F p0 p1 p2 p3=>by
 try simp only[aa,ae]at *
 have:=@bz F aA
 obtain⟨a9,ea9,qa9⟩:=ab ((E.I F bw)+(1))
 try simp only[ea9]at *
 omega
def avf:=fb XM qv<|cH fun F p0 p1 p2 p3 p4 p5 p6=>by
 try simp only[aa,ae]at *
 obtain⟨a8,ea8,qa8⟩:=ab ((E.I F bw)+(1))
 try simp only[ea8]at *
 omega
def avg:=fb [ka,mW,B4] oL<|aj fun F p0 p1 p2=>by
 try simp only[aa,ae]at *
 obtain⟨a9,ea9,qa9⟩:=ab ((E.I F bw)+(1))
 try simp only[ea9]at *
 omega
def avh:=fb JI JH<|bL fun F p0 p1 p2 p3 p4 p5=>by
 try simp only[aa,ae]at *
 have:=@bz F aA
 obtain⟨a10,ea10,qa10⟩:=ab ((E.I F bw)+(1))
 try simp only[ea10]at *
 omega
def avi:=fb [mW,B4,qz] mV<|aj fun F p0 p1 p2=>by
 try simp only[aa,ae]at *
 obtain⟨a7,ea7,qa7⟩:=ab ((E.I F bw)+(1))
 try simp only[ea7]at *
 omega
def avj:=fb JJ qv<|aJ fun F p0 p1 p2 p3 p4=>by
 try simp only[aa,ae]at *
 obtain⟨a8,ea8,qa8⟩:=ab ((E.I F bw)+(1))
 try simp only[ea8]at *
 omega
def avk:=fb xf qv<|aw fun F p0 p1 p2 p3=>by
 try simp only[aa,ae]at *
 have:=@bz F aA
 obtain⟨a9,ea9,qa9⟩:=ab ((E.I F bw)+(1))
 try simp only[ea9]at *
 omega
def avl:=fb JG (cmp .eql (fn 6 (pr aq (.int 1))) (.ar .add .i64 bw (.int 1)))<|cR fun F p0 p1 p2 p3 p4 p5 p6 p7=>by
 try simp only[aa,ae]at *
 have:=@bz F aA
 obtain⟨a8,ea8,qa8⟩:=ab ((E.I F bw)+(1))
 try simp only[ea8]at *
 omega
def avm:=fb [ka,mW,B4] mV<|aj fun F p0 p1 p2=>by
 try simp only[aa,ae]at *
 obtain⟨a9,ea9,qa9⟩:=ab ((E.I F bw)+(1))
 try simp only[ea9]at *
 omega
def avn:=fb (ka::mW::fw::qx) qv<|aJ fun F p0 p1 p2 p3 p4=>by
 try simp only[aa,ae]at *
 obtain⟨a10,ea10,qa10⟩:=ab ((E.I F bw)+(1))
 try simp only[ea10]at *
 omega
def avo:=fb XN qv<|aj fun F p0 p1 p2=>by
 try simp only[aa,ae]at *
 obtain⟨a11,ea11,qa11⟩:=ab ((E.I F bw)+(1))
 try simp only[ea11]at *
 omega
def avp:=fb xf (cmp .eql (fn 6 (pr aq (fn 6 (pr (fn 7 (pr fx aq)) (.int 1))))) (.ar .add .i64 bw (.int 1)))<|aw fun F p0 p1 p2 p3=>by
 try simp only[aa,ae]at *
 have:=@bz F aA
 obtain⟨a9,ea9,qa9⟩:=ab ((E.I F bw)+(1))
 try simp only[ea9]at *
 omega
def avq:=fb JF oL<|bL fun F p0 p1 p2 p3 p4 p5=>by
 try simp only[aa,ae]at *
 obtain⟨a7,ea7,qa7⟩:=ab ((E.I F bw)+(1))
 try simp only[ea7]at *
 omega
def avr:=fb JI (cmp .eql (fn 6 (pr (fn 7 (pr fx aq)) (.int 1))) (.ar .add .i64 bw (.int 1)))<|bL fun F p0 p1 p2 p3 p4 p5=>by
 try simp only[aa,ae]at *
 have:=@bz F aA
 obtain⟨a10,ea10,qa10⟩:=ab ((E.I F bw)+(1))
 try simp only[ea10]at *
 omega
def avs:=fb JF mV<|bL fun F p0 p1 p2 p3 p4 p5=>by
 try simp only[aa,ae]at *
 obtain⟨a7,ea7,qa7⟩:=ab ((E.I F bw)+(1))
 try simp only[ea7]at *
 omega
def avt:=fb XP (fn 152 (pr (fn 3 (pr (fn 4 (pr bC (pr (.int 0) aq))) (fn 23 (pr (fn 1 (pr aA bw)) (fn 10 (.int 0)))))) B0))<|dP fun F p0 p1 p2 p3 p4 p5 p6 p7 p8=>by
 have:=@bJ F bw (.int 1)
 have:=@pL F _ _ _ _ (.ar .add .i64 bw (.int 1)) _ (fn 0 bC) p6 p3 rfl
 try simp only[aa,ae]at *
 grind
def avu:=fb XP XQ<|dP fun F p0 p1 p2 p3 p4 p5 p6 p7 p8=>by
 have:=@bJ F bw (.int 1)
 have:=@pL F _ _ _ _ (.ar .add .i64 bw (.int 1)) _ (fn 6 (pr aq (fn 7 (pr fx aq)))) p6 p3 rfl
 try simp only[aa,ae]at *
 grind
def avv:=fb JG oL<|cR fun F p0 p1 p2 p3 p4 p5 p6 p7=>by
 try simp only[aa,ae]at *
 have:=@bz F aA
 obtain⟨a8,ea8,qa8⟩:=ab ((E.I F bw)+(1))
 try simp only[ea8]at *
 omega
def avw:=fb (ka::(.not JD)::mW::XR) (fn 152 (pr (fn 3 (pr (fn 23 (pr (fn 1 (pr aA bw)) (fn 10 (.int 0)))) (fn 4 (pr bC (pr aq (fn 6 (pr aq (fn 7 (pr fx aq))))))))) B0))<|eT fun F p0 p1 p2 p3 p4 p5 p6 p7 p8 p9=>by
 have:=@bJ F bw (.int 1)
 have:=@pL F _ _ _ _ (.ar .add .i64 bw (.int 1)) _ (fn 6 (pr aq (fn 7 (pr fx aq)))) p7 p5 rfl
 try simp only[aa,ae]at *
 grind
def avx:=fb (ka::(.not JD)::XR) XQ<|dP fun F p0 p1 p2 p3 p4 p5 p6 p7 p8=>by
 have:=@bJ F bw (.int 1)
 have:=@pL F _ _ _ _ (.ar .add .i64 bw (.int 1)) _ (fn 6 (pr aq (fn 7 (pr fx aq)))) p6 p4 rfl
 try simp only[aa,ae]at *
 grind
def avy:=fb JJ oL<|aJ fun F p0 p1 p2 p3 p4=>by
 try simp only[aa,ae]at *
 obtain⟨a8,ea8,qa8⟩:=ab ((E.I F bw)+(1))
 try simp only[ea8]at *
 omega
def avz:=fb xf oL<|aw fun F p0 p1 p2 p3=>by
 try simp only[aa,ae]at *
 have:=@bz F aA
 obtain⟨a9,ea9,qa9⟩:=ab ((E.I F bw)+(1))
 try simp only[ea9]at *
 omega
def avA:=fb XM mV<|cH fun F p0 p1 p2 p3 p4 p5 p6=>by
 try simp only[aa,ae]at *
 obtain⟨a8,ea8,qa8⟩:=ab ((E.I F bw)+(1))
 try simp only[ea8]at *
 omega
def avB:=fb JI oL<|bL fun F p0 p1 p2 p3 p4 p5=>by
 try simp only[aa,ae]at *
 have:=@bz F aA
 obtain⟨a10,ea10,qa10⟩:=ab ((E.I F bw)+(1))
 try simp only[ea10]at *
 omega
def avC:=fb JJ mV<|aJ fun F p0 p1 p2 p3 p4=>by
 try simp only[aa,ae]at *
 obtain⟨a8,ea8,qa8⟩:=ab ((E.I F bw)+(1))
 try simp only[ea8]at *
 omega
def avD:=fb xf mV<|aw fun F p0 p1 p2 p3=>by
 try simp only[aa,ae]at *
 have:=@bz F aA
 obtain⟨a9,ea9,qa9⟩:=ab ((E.I F bw)+(1))
 try simp only[ea9]at *
 omega
def avE:=fb (ka::mW::fw::qx) mV<|aJ fun F p0 p1 p2 p3 p4=>by
 try simp only[aa,ae]at *
 obtain⟨a10,ea10,qa10⟩:=ab ((E.I F bw)+(1))
 try simp only[ea10]at *
 omega
def avF:=fb XN mV<|aj fun F p0 p1 p2=>by
 try simp only[aa,ae]at *
 obtain⟨a11,ea11,qa11⟩:=ab ((E.I F bw)+(1))
 try simp only[ea11]at *
 omega
def p57:List Fa:=[P8,P9,auT,auU,auV,Qa,auW,Qb,auX,Qc,auY,Hx,Qd,auZ,au0,Qe,au1,au2,au3,Qf,Qg,au4,Qh,au5,au6,au7,au8,Qi,Qp,au9,Qj,Qk,Qm,ava,avb,avc,Qn,Qo,avd,ave,Qq,avf,avg,avh,avi,avj,avk,Qs,avl,avm,avn,avo,Qt,avp,avq,Qu,avr,Qw,Qx,avs,avt,Qy,Qz,QA,avu,avv,avw,avx,avy,avz,avA,avB,avC,avD,avE,avF]
theorem aLt:aL Tryz.prog (bh (aKv)):=sc p57 (aFl) ael ([.down kI]) (by kernel_rfl) (by kernel_rfl)
def aem:Nl:=nc aLt ael
def avG:=fb [XS,kb,kb] (fn 109 (pr (fn 1 (pr av (.int 8))) JK))<|aj fun F p0 p1 p2=>by
 have g0:E.I F bc=(0):=by
  have:=ai p1
  have:=ai p2
  have:=pw F (pr aA (.int 14))
  try simp only[aa,ae]at *
  omega
 have g1:E.I F (.int 2)=E.I F (.int 2):=rfl;exact gh 0 2 8 (by decide) (by decide) g0 g1
def avH:=fb [(.not XS),BF,BG,kb,kb] (fn 109 (pr (fn 1 (pr av (.int 22))) JK))<|aJ fun F p0 p1 p2 p3 p4=>by
 have g0:E.I F bc=(1):=by
  have:=ai p3
  have:=ai p4
  have:=pw F (pr aA (.int 14))
  try simp only[aa,ae]at *
  omega
 have g1:E.I F (.int 2)=E.I F (.int 2):=rfl;exact gh 1 2 22 (by decide) (by decide) g0 g1
def avI:=fb [kb] (.not (cmp .lss (.int 40) (fn 0 (fn 1 (pr av (.int 8))))))<|ah fun F p0=>by
 have q1:=Eq.mp gi p0
 have:=Eq.mp kX q1.1
 simp only[aa]at *;omega
def avJ:=fb [kb] (.not (cmp .lss (.int 40) (fn 0 (fn 1 (pr av (.int 22))))))<|ah fun F p0=>by
 have q1:=Eq.mp gi p0
 have:=Eq.mp kX q1.1
 simp only[aa]at *;omega
def avK:=fa ((fn 225 (pr (fn 10 (.int 0)) (pr aA (pr av (pr bc (.int 0)))))))<|fun F=>by
 exact aMZ (by simp only[aa]at *;omega)
def avL:=fb (jZ::xa::mT::Jw) (.not (cmp .lss gS (.int 0)))<|cH fun F p0 p1 p2 p3 p4 p5 p6=>by
 have hf:E.B F qn=true:=by
  rw[sk]
  exact⟨by simp only[aa]at *;omega,by simp only[aa]at *;omega,p6⟩
 have h0:0<=E.I F bG:=by
  simp only[aa]at *;omega
 have h1:E.I F bG<E.I F (fn 0 dB):=by
  simp only[aa]at *;omega
 have:=zC p3 hf (i:=bG) rfl h0 h1
 simp only[aa]at *;omega
def avM:=fb (BH::Xf::BI::Jw) (fn 224 (pr (fn 30 (.int 0)) Xg))<|cH fun F p0 p1 p2 p3 p4 p5 p6=>by
 have hf:E.B F qn=true:=by
  rw[sk]
  exact⟨by simp only[aa]at *;omega,by simp only[aa]at *;omega,p6⟩
 have h1:E.I F (fn 0 dB)<=E.I F bG:=by
  simp only[aa]at *;omega
 exact aMY p1 p3 hf h1
def avN:=fb (BH::BI::Xi) (.not (cmp .lss (.int 60) f9))<|bL fun F p0 p1 p2 p3 p4 p5=>by
 try simp only[aa,ae]at *
 omega
def avO:=fb Jy (.not (cmp .lss (.ar .add .i64 bG (.int 1)) (.int 0)))<|aj fun F p0 p1 p2=>by
 try simp only[aa,ae]at *
 have:=@bz F dB
 obtain⟨a8,ea8,qa8⟩:=ab ((E.I F bG)+(1))
 try simp only[ea8]at *
 omega
def avP:=fb [jZ,mT,s6,Jx,BJ,(.not (cmp .lss qp f9)),(.not (cmp .lss f9 (.int 1)))] (.not (cmp .lss qp (.int 0)))<|cH fun F p0 p1 p2 p3 p4 p5 p6=>by
 try simp only[aa,ae]at *
 have:=@bz F dB
 omega
def avQ:=fb [Jx,BJ,BI,mT,BH,(cmp .eql (fn 0 gS) oK),(cmp .eql oK f9),s6] (.not (cmp .lss (.int 40) (fn 0 gS)))<|cR fun F p0 p1 p2 p3 p4 p5 p6 p7=>by
 simp only[aa]at *;omega
def avR:=fb [jZ,mT] (.not (cmp .lss (fn 0 dB) (.ar .add .i64 bG (.int 1))))<|am fun F p0 p1=>by
 try simp only[aa,ae]at *
 obtain⟨a8,ea8,qa8⟩:=ab ((E.I F bG)+(1))
 try simp only[ea8]at *
 omega
def avS:=fb Jz (.not (cmp .lss (.int 2147483648) (fn 6 (pr f9 (.int 1)))))<|aJ fun F p0 p1 p2 p3 p4=>by
 try simp only[aa,ae]at *
 have:=@bz F dB
 omega
def avT:=fb (BH::(fn 152 (pr gS (pr aq f9)))::BI::Jv::BF::BG::j9::BJ::Xj) (fn 224 (pr (fn 28 (pr (pr aB oK) gS)) Xg))<|dP fun F p0 p1 p2 p3 p4 p5 p6 p7 p8=>by
 have hf:E.B F qn=true:=by
  rw[sk]
  exact⟨by simp only[aa]at *;omega,by simp only[aa]at *;omega,p6⟩
 have h1:E.I F (fn 0 dB)<=E.I F bG:=by
  simp only[aa]at *;omega
 have hx:E.I F (fn 0 aq)<=E.I F f9:=by
  simp only[aa]at *;omega
 exact aMX p8 p3 hf p1 h1 hx
def avU:=fb (jZ::xa::BM::oK::Xk) (fn 225 (pr (fn 23 (pr (fn 1 (pr dB bG)) (fn 10 (.int 0)))) BN))<|gX fun F p0 p1 p2 p3 p4 p5 p6 p7 p8 p9 ak=>by
 have hf:E.B F qn=true:=by
  rw[sk]
  exact⟨by simp only[aa]at *;omega,by simp only[aa]at *;omega,ak⟩
 have h0:0<=E.I F bG:=by
  simp only[aa]at *;omega
 have h1:E.I F bG<E.I F (fn 0 dB):=by
  simp only[aa]at *;omega
 have hk:=zC p7 hf (i:=bG) rfl h0 h1;have hq:E.I F gS=E.I F (fn 120 (pr av (pr (fn 1 (pr dB bG)) (fn 9 (pr (fn 1 (pr av (.int 0))) (.int 12)))))):=by
  simp only[aa]at *;omega
 have hq0:0<=E.I F gS:=by
  rw[hq]
  exact hk
 have hn:E.I F (.ar .add .i64 bG (.int 1))=E.I F bG+1:=by
  simp only[aa,ae]at *
  obtain⟨w,ew,qw⟩:=ab (E.I F bG+1)
  simp only[ew];omega
 have st:=@Gt _ (fn 10 (.int 0)) _ _ _ _ _ _ aA p4 p7 h0 h1 hn hq hq0
 refine(st.2 ?_).2 rfl
 clear st;simp only[aa,bp,aS]at *;grind
def avV:=fb (jZ::xa::BM::(.not oK)::Xk) (fn 225 (pr (fn 10 (.int 0)) BN))<|gX fun F p0 p1 p2 p3 p4 p5 p6 p7 p8 p9 ak=>by
 have hf:E.B F qn=true:=by
  rw[sk]
  exact⟨by simp only[aa]at *;omega,by simp only[aa]at *;omega,ak⟩
 have h0:0<=E.I F bG:=by
  simp only[aa]at *;omega
 have h1:E.I F bG<E.I F (fn 0 dB):=by
  simp only[aa]at *;omega
 have hk:=zC p7 hf (i:=bG) rfl h0 h1;have hq:E.I F gS=E.I F (fn 120 (pr av (pr (fn 1 (pr dB bG)) (fn 9 (pr (fn 1 (pr av (.int 0))) (.int 12)))))):=by
  simp only[aa]at *;omega
 have hq0:0<=E.I F gS:=by
  rw[hq]
  exact hk
 have hn:E.I F (.ar .add .i64 bG (.int 1))=E.I F bG+1:=by
  simp only[aa,ae]at *
  obtain⟨w,ew,qw⟩:=ab (E.I F bG+1)
  simp only[ew];omega
 have st:=@Gt _ (fn 10 (.int 0)) _ _ _ _ _ _ aA p4 p7 h0 h1 hn hq hq0;refine st.1 ?_;clear st;simp only[aa,bp,aS]at *;grind
def avW:=fb (jZ::xa::BM::(.not oK)::Xl) (fn 225 (pr aq BN))<|gX fun F p0 p1 p2 p3 p4 p5 p6 p7 p8 p9 ak=>by
 have hf:E.B F qn=true:=by
  rw[sk]
  exact⟨by simp only[aa]at *;omega,by simp only[aa]at *;omega,p9⟩
 have h0:0<=E.I F bG:=by
  simp only[aa]at *;omega
 have h1:E.I F bG<E.I F (fn 0 dB):=by
  simp only[aa]at *;omega
 have hk:=zC p6 hf (i:=bG) rfl h0 h1;have hq:E.I F gS=E.I F (fn 120 (pr av (pr (fn 1 (pr dB bG)) (fn 9 (pr (fn 1 (pr av (.int 0))) (.int 12)))))):=by
  simp only[aa]at *;omega
 have hq0:0<=E.I F gS:=by
  rw[hq]
  exact hk
 have hn:E.I F (.ar .add .i64 bG (.int 1))=E.I F bG+1:=by
  simp only[aa,ae]at *
  obtain⟨w,ew,qw⟩:=ab (E.I F bG+1)
  simp only[ew];omega
 have st:=@Gt _ aq _ _ _ _ _ _ aA ak p6 h0 h1 hn hq hq0;refine st.1 ?_;clear st;simp only[aa,bp,aS]at *;grind
def avX:=fb Jy (.not (cmp .lss (.ar .add .i64 bG (.int 1)) (.int 1)))<|aj fun F p0 p1 p2=>by
 try simp only[aa,ae]at *
 have:=@bz F dB
 obtain⟨a8,ea8,qa8⟩:=ab ((E.I F bG)+(1))
 try simp only[ea8]at *
 omega
def avY:=fb Jy (cmp .lss (fn 7 (pr (fn 0 dB) (.ar .add .i64 bG (.int 1)))) (fn 7 (pr (fn 0 dB) bG)))<|aj fun F p0 p1 p2=>by
 try simp only[aa,ae]at *
 have:=@bz F dB
 obtain⟨a7,ea7,qa7⟩:=ab ((E.I F bG)+(1))
 try simp only[ea7]at *
 omega
def avZ:=fb Jz (.not (cmp .lss (.ar .add .i64 bG (.int 1)) f9))<|aJ fun F p0 p1 p2 p3 p4=>by
 try simp only[aa,ae]at *
 have:=@bz F dB
 obtain⟨a10,ea10,qa10⟩:=ab ((E.I F bG)+(1))
 try simp only[ea10]at *
 omega
def av0:=fb [jZ,mT] (.not (cmp .lss (fn 7 (pr (fn 0 dB) (.ar .add .i64 bG (.int 1)))) (.int 0)))<|am fun F p0 p1=>by
 try simp only[aa,ae]at *
 obtain⟨a7,ea7,qa7⟩:=ab ((E.I F bG)+(1))
 try simp only[ea7]at *
 omega
def av1:=fb (jZ::xa::BM::oK::Xl) (fn 225 (pr (fn 3 (pr aq (fn 23 (pr (fn 1 (pr dB bG)) (fn 10 (.int 0)))))) BN))<|gX fun F p0 p1 p2 p3 p4 p5 p6 p7 p8 p9 ak=>by
 have hf:E.B F qn=true:=by
  rw[sk]
  exact⟨by simp only[aa]at *;omega,by simp only[aa]at *;omega,p9⟩
 have h0:0<=E.I F bG:=by
  simp only[aa]at *;omega
 have h1:E.I F bG<E.I F (fn 0 dB):=by
  simp only[aa]at *;omega
 have hk:=zC p6 hf (i:=bG) rfl h0 h1;have hq:E.I F gS=E.I F (fn 120 (pr av (pr (fn 1 (pr dB bG)) (fn 9 (pr (fn 1 (pr av (.int 0))) (.int 12)))))):=by
  simp only[aa]at *;omega
 have hq0:0<=E.I F gS:=by
  rw[hq]
  exact hk
 have hn:E.I F (.ar .add .i64 bG (.int 1))=E.I F bG+1:=by
  simp only[aa,ae]at *
  obtain⟨w,ew,qw⟩:=ab (E.I F bG+1)
  simp only[ew];omega
 have st:=@Gt _ aq _ _ _ _ _ _ aA ak p6 h0 h1 hn hq hq0
 refine(st.2 ?_).1
 clear st;simp only[aa,bp,aS]at *;grind
def av2:=fb Jz (.not (cmp .lss (.ar .add .i64 bG (.int 1)) (fn 6 (pr f9 (.int 1)))))<|aJ fun F p0 p1 p2 p3 p4=>by
 try simp only[aa,ae]at *
 have:=@bz F dB
 obtain⟨a11,ea11,qa11⟩:=ab ((E.I F bG)+(1))
 try simp only[ea11]at *
 omega
def p58:List Fa:=[df,avG,avH,avI,avJ,avK,avL,avM,avN,avO,avP,avQ,avR,avS,avT,avU,avV,avW,avX,avY,avZ,av0,av1,Re,av2]
theorem aLu:aL Tryz.prog (bh (aKs)):=sc p58 (aFg) aem (msI) (by kernel_rfl) (by kernel_rfl)
def aeo:Nl:=nc aLu aem
def av3:=fb [j9] (.not (cmp .lss (.ar .sub .i64 (.int 1) (fn 1 (pr av (.int 34)))) (.int 0)))<|ah fun F p0=>by
 have p5:=dN.2 p0
 have:=iU p5
 obtain⟨wa,ewa,qwa⟩:=ab (1-E.I F (fn 1 (pr av (.int 34))))
 simp only[aa,ae,ewa]at *;omega
def av4:=fb [j9] (.not (cmp .lss (.int 1) (.ar .sub .i64 (.int 1) (fn 1 (pr av (.int 34))))))<|ah fun F p0=>by
 have p5:=dN.2 p0
 have:=iU p5
 obtain⟨wa,ewa,qwa⟩:=ab (1-E.I F (fn 1 (pr av (.int 34))))
 simp only[aa,ae,ewa]at *;omega
def av5:=fb [kb] (.not (cmp .lss (.int 40) (fn 0 (fn 1 (pr av (.int 31))))))<|ah fun F p0=>by
 have:=Eq.mp gi p0
 simp only[aa]at *;omega
def av6:=fa ((fn 227 (pr (fn 10 (.int 0)) (pr aA (pr av (pr bc (pr bN (pr (.int 0) (.int 0)))))))))<|fun F=>by
 exact ag9 (by simp only[aa]at *;omega) (by simp only[aa]at *;omega)
def av7:=fb [iP,jt,qq,mU] (.not (cmp .lss cW (.int 0)))<|aw fun F p0 p1 p2 p3=>by
 have h0:0<=E.I F aq:=by
  simp only[aa]at *;omega
 have h1:E.I F aq<E.I F (fn 0 bc):=by
  simp only[aa]at *;omega
 have f28:0<=E.I F cW:=by
  have u:=iv p2 h0 h1;have w:=p0;simp only[aa]at w
  rw[w];exact u
 clear h0 h1;simp only[aa]at *;omega
def av8:=fb [fv,iQ,qr,xb,j9] (.not (cmp .lss dm (.int 0)))<|aJ fun F p0 p1 p2 p3 p4=>by
 have h0:0<=E.I F aB:=by
  simp only[aa]at *;omega
 have h1:E.I F aB<E.I F (fn 0 bN):=by
  simp only[aa]at *;omega
 have f29:0<=E.I F dm:=by
  have u:=iu (dN.2 p4) p3 h0 h1;have w:=p1;simp only[aa]at w
  rw[w];exact u
 clear h0 h1;simp only[aa]at *;omega
def av9:=fb Xm XG<|aj fun F p0 p1 p2=>by
 try simp only[aa,ae]at *
 have:=@bz F bc
 obtain⟨a6,ea6,qa6⟩:=ab ((E.I F aq)+(1))
 try simp only[ea6]at *
 omega
def awa:=fb [(.not mU),xb,qq,j9,(fn 227 (pr (fn 10 (.int 0)) Xn)),Xo] (fn 232 (pr (fn 30 (.int 0)) (pr aA av)))<|bL fun F p0 p1 p2 p3 p4 p5=>by
 have Fb:=dN.2 p3
 have:=iU Fb
 obtain⟨wa,ewa,qwa⟩:=ab (1-E.I F (fn 1 (pr av (.int 34))))
 have hp:E.I F (.ar .sub .i64 (.int 1) (fn 1 (pr av (.int 34))))=1-E.I F (fn 1 (pr av (.int 34))):=by
  simp only[ae,aa,ewa]at *;omega
 have hi:E.I F aq=E.I F (fn 0 bc):=by
  simp only[aa]at *;omega
 have h9:=vo p4 p2 p1 Fb hp hi rfl;exact Oc h9
def awb:=fb [(.not mU),xb,qq,j9,Xo,Xp] (fn 232 (pr (fn 28 (pr (pr bG qp) f9)) (pr aA av)))<|bL fun F p0 p1 p2 p3 p4 p5=>by
 have Fd:=dN.2 p3
 have:=iU Fd
 obtain⟨wa,ewa,qwa⟩:=ab (1-E.I F (fn 1 (pr av (.int 34))))
 have hp:E.I F (.ar .sub .i64 (.int 1) (fn 1 (pr av (.int 34))))=1-E.I F (fn 1 (pr av (.int 34))):=by
  simp only[ae,aa,ewa]at *;omega
 have hi:E.I F aq=E.I F (fn 0 bc):=by
  simp only[aa]at *;omega
 have h9:=vo p5 p2 p1 Fd hp hi rfl;exact Ob h9
def awc:=fb [j9] (fn 115 av)<|ah fun F p0=>by
 exact dN.2 p0
def awd:=fb [kb,fv,qr,s7] (.not (cmp .lss (.ar .add .i64 aB (.int 1)) (.int 0)))<|aw fun F p0 p1 p2 p3=>by
 have:=ai p0
 try simp only[aa,ae]at *
 obtain⟨a11,ea11,qa11⟩:=ab ((E.I F aB)+(1))
 try simp only[ea11]at *
 omega
def awe:=fb [mU,jt] (.not (cmp .lss (fn 0 bc) (.ar .add .i64 aq (.int 1))))<|am fun F p0 p1=>by
 try simp only[aa,ae]at *
 obtain⟨a6,ea6,qa6⟩:=ab ((E.I F aq)+(1))
 try simp only[ea6]at *
 omega
def awf:=fb [Xp,BP,s7,qq,kb,(cmp .eql (fn 0 f9) (fn 8 (pr qp (.int 2)))),(.not (cmp .lss qp (.int 1)))] (.not (cmp .lss (.int 1000) (fn 9 (pr (fn 28 (pr (pr bG qp) f9)) (.int 2)))))<|cH fun F p0 p1 p2 p3 p4 p5 p6=>by
 have hB:=abe p3 p4;have hA:E.I F (fn 0 bN)<=30:=by
  simp only[aa]at *;omega
 have:=Gu p0 hB hA
 have hr:E.I F (fn 9 (pr (fn 28 (pr (pr bG qp) f9)) (.int 2)))=E.I F (fn 0 f9)/2:=rfl;simp only[aa]at *;omega
def awg:=fb [fv,qr] (.not (cmp .lss (fn 0 bN) (.ar .add .i64 aB (.int 1))))<|am fun F p0 p1=>by
 try simp only[aa,ae]at *
 obtain⟨a11,ea11,qa11⟩:=ab ((E.I F aB)+(1))
 try simp only[ea11]at *
 omega
def awh:=fb [(.not fv),Xr,Xs,jt,JB,mU] (fn 227 (pr (fn 10 (.int 0)) Xt))<|bL fun F p0 p1 p2 p3 p4 p5=>by
 have h0:0<=E.I F aq:=by
  simp only[aa]at *;omega
 have h1:E.I F aq<E.I F (fn 0 bc):=by
  simp only[aa]at *;omega
 have hn:E.I F (.ar .add .i64 aq (.int 1))=E.I F aq+1:=by
  simp only[aa,ae]at *
  obtain⟨w,ew,qw⟩:=ab (E.I F aq+1)
  simp only[ew];omega
 have hm:E.I F aB=E.I F (fn 0 bN):=by
  simp only[aa]at *;omega
 exact Gv p1 h0 h1 hm hn rfl
def awi:=fb ((.not (cmp .lss (var 27) xc))::Xu) (.not (cmp .lss (var 27) (.int 0)))<|am fun F p0 p1=>by
 try simp only[aa,ae]at *
 omega
def awj:=fb ((.not fv)::Xs::jt::JB::Xw) (fn 227 (pr s8 Xt))<|bL fun F p0 p1 p2 p3 p4 p5=>by
 have h0:0<=E.I F aq:=by
  simp only[aa]at *;omega
 have h1:E.I F aq<E.I F (fn 0 bc):=by
  simp only[aa]at *;omega
 have hn:E.I F (.ar .add .i64 aq (.int 1))=E.I F aq+1:=by
  simp only[aa,ae]at *
  obtain⟨w,ew,qw⟩:=ab (E.I F aq+1)
  simp only[ew];omega
 have hm:E.I F aB=E.I F (fn 0 bN):=by
  simp only[aa]at *;omega
 exact Gv p4 h0 h1 hm hn rfl
def awk:=fb (fv::iP::iQ::s9::(var 30)::ta) BS<|lP fun F p0 p1 p2 p3 p4 p5 p6 p7 p8 p9 ak ao ap az=>by
 have h0:0<=E.I F aq:=by
  simp only[aa]at *;omega
 have h1:E.I F aq<E.I F (fn 0 bc):=by
  simp only[aa]at *;omega
 have f28:0<=E.I F cW:=by
  have u:=iv ao h0 h1;have w:=p1;simp only[aa]at w
  rw[w];exact u
 clear h0 h1;have h0:0<=E.I F aB:=by
  simp only[aa]at *;omega
 have h1:E.I F aB<E.I F (fn 0 bN):=by
  simp only[aa]at *;omega
 have f29:0<=E.I F dm:=by
  have u:=iu (dN.2 ap) p8 h0 h1;have w:=p2;simp only[aa]at w
  rw[w];exact u
 clear h0 h1;have hq:E.I F cW=E.I F (fn 120 (pr av (pr (fn 1 (pr bc aq)) (fn 9 (pr (fn 1 (pr av (.int 0))) (.int 12)))))):=by
  simp only[aa]at *;omega
 have hr:E.I F dm=E.I F (fn 120 (pr av (pr (fn 1 (pr bN aB)) (fn 9 (pr (fn 1 (pr av (.int 0))) (.int 12)))))):=by
  simp only[aa]at *;omega
 have h0:0<=E.I F aq:=by
  simp only[aa]at *;omega
 have h1:E.I F aq<E.I F (fn 0 bc):=by
  simp only[aa]at *;omega
 have k0:0<=E.I F aB:=by
  simp only[aa]at *;omega
 have k1:E.I F aB<E.I F (fn 0 bN):=by
  simp only[aa]at *;omega
 have hn:E.I F (.ar .add .i64 aB (.int 1))=E.I F aB+1:=by
  simp only[aa,ae]at *
  obtain⟨w,ew,qw⟩:=ab (E.I F aB+1)
  simp only[ew];omega
 have ok:=@jz _ _ _ _ _ _ aA hq f28 hr f29;have st:=eM p5 h0 h1 k0 k1 hn
 rw[ok]at st
 refine st.1 ?_;clear st ok hq hr;simp only[aa,bp,aS]at *;grind
def awl:=fb (fv::iP::iQ::(fn 1 (pr (fn 1 (pr av (.int 0))) (fn 6 (pr (fn 8 (pr cW (.int 12))) (.int 9)))))::ta) BS<|gx fun F p0 p1 p2 p3 p4 p5 p6 p7 p8 p9 ak ao ap=>by
 have h0:0<=E.I F aq:=by
  simp only[aa]at *;omega
 have h1:E.I F aq<E.I F (fn 0 bc):=by
  simp only[aa]at *;omega
 have f28:0<=E.I F cW:=by
  have u:=iv ak h0 h1;have w:=p1;simp only[aa]at w
  rw[w];exact u
 clear h0 h1;have h0:0<=E.I F aB:=by
  simp only[aa]at *;omega
 have h1:E.I F aB<E.I F (fn 0 bN):=by
  simp only[aa]at *;omega
 have f29:0<=E.I F dm:=by
  have u:=iu (dN.2 ao) p7 h0 h1;have w:=p2;simp only[aa]at w
  rw[w];exact u
 clear h0 h1;have hq:E.I F cW=E.I F (fn 120 (pr av (pr (fn 1 (pr bc aq)) (fn 9 (pr (fn 1 (pr av (.int 0))) (.int 12)))))):=by
  simp only[aa]at *;omega
 have hr:E.I F dm=E.I F (fn 120 (pr av (pr (fn 1 (pr bN aB)) (fn 9 (pr (fn 1 (pr av (.int 0))) (.int 12)))))):=by
  simp only[aa]at *;omega
 have h0:0<=E.I F aq:=by
  simp only[aa]at *;omega
 have h1:E.I F aq<E.I F (fn 0 bc):=by
  simp only[aa]at *;omega
 have k0:0<=E.I F aB:=by
  simp only[aa]at *;omega
 have k1:E.I F aB<E.I F (fn 0 bN):=by
  simp only[aa]at *;omega
 have hn:E.I F (.ar .add .i64 aB (.int 1))=E.I F aB+1:=by
  simp only[aa,ae]at *
  obtain⟨w,ew,qw⟩:=ab (E.I F aB+1)
  simp only[ew];omega
 have ok:=@jz _ _ _ _ _ _ aA hq f28 hr f29;have st:=eM p4 h0 h1 k0 k1 hn
 rw[ok]at st
 refine st.1 ?_;clear st ok hq hr;simp only[aa,bp,aS]at *;grind
def awm:=fb Xm (cmp .lss (fn 7 (pr (fn 0 bc) (.ar .add .i64 aq (.int 1)))) (fn 7 (pr (fn 0 bc) aq)))<|aj fun F p0 p1 p2=>by
 try simp only[aa,ae]at *
 have:=@bz F bc
 obtain⟨a6,ea6,qa6⟩:=ab ((E.I F aq)+(1))
 try simp only[ea6]at *
 omega
def awn:=fb (Xv::BP::s7::qq::kb::Xy::Xu) (.not (cmp .lss (.int 2147483648) (fn 6 (pr xc (.int 1)))))<|cH fun F p0 p1 p2 p3 p4 p5 p6=>by
 have hB:=abe p3 p4;have hA:E.I F (fn 0 bN)<=30:=by
  simp only[aa]at *;omega
 have:=Gu p0 hB hA
 simp only[aa]at *;omega
def awo:=fb (fv::iP::iQ::s9::(var 30)::tc) BT<|lP fun F p0 p1 p2 p3 p4 p5 p6 p7 p8 p9 ak ao ap az=>by
 have h0:0<=E.I F aq:=by
  simp only[aa]at *;omega
 have h1:E.I F aq<E.I F (fn 0 bc):=by
  simp only[aa]at *;omega
 have f28:0<=E.I F cW:=by
  have u:=iv ak h0 h1;have w:=p1;simp only[aa]at w
  rw[w];exact u
 clear h0 h1;have h0:0<=E.I F aB:=by
  simp only[aa]at *;omega
 have h1:E.I F aB<E.I F (fn 0 bN):=by
  simp only[aa]at *;omega
 have f29:0<=E.I F dm:=by
  have u:=iu (dN.2 ao) p7 h0 h1;have w:=p2;simp only[aa]at w
  rw[w];exact u
 clear h0 h1;have hq:E.I F cW=E.I F (fn 120 (pr av (pr (fn 1 (pr bc aq)) (fn 9 (pr (fn 1 (pr av (.int 0))) (.int 12)))))):=by
  simp only[aa]at *;omega
 have hr:E.I F dm=E.I F (fn 120 (pr av (pr (fn 1 (pr bN aB)) (fn 9 (pr (fn 1 (pr av (.int 0))) (.int 12)))))):=by
  simp only[aa]at *;omega
 have h0:0<=E.I F aq:=by
  simp only[aa]at *;omega
 have h1:E.I F aq<E.I F (fn 0 bc):=by
  simp only[aa]at *;omega
 have k0:0<=E.I F aB:=by
  simp only[aa]at *;omega
 have k1:E.I F aB<E.I F (fn 0 bN):=by
  simp only[aa]at *;omega
 have hn:E.I F (.ar .add .i64 aB (.int 1))=E.I F aB+1:=by
  simp only[aa,ae]at *
  obtain⟨w,ew,qw⟩:=ab (E.I F aB+1)
  simp only[ew];omega
 have ok:=@jz _ _ _ _ _ _ aA hq f28 hr f29;have st:=eM ap h0 h1 k0 k1 hn
 rw[ok]at st
 refine st.1 ?_;clear st ok hq hr;simp only[aa,bp,aS]at *;grind
def awp:=fb (fv::iP::iQ::(fn 1 (pr (fn 1 (pr av (.int 0))) (fn 6 (pr (fn 8 (pr cW (.int 12))) (.int 9)))))::tc) BT<|gx fun F p0 p1 p2 p3 p4 p5 p6 p7 p8 p9 ak ao ap=>by
 have h0:0<=E.I F aq:=by
  simp only[aa]at *;omega
 have h1:E.I F aq<E.I F (fn 0 bc):=by
  simp only[aa]at *;omega
 have f28:0<=E.I F cW:=by
  have u:=iv p9 h0 h1;have w:=p1;simp only[aa]at w
  rw[w];exact u
 clear h0 h1;have h0:0<=E.I F aB:=by
  simp only[aa]at *;omega
 have h1:E.I F aB<E.I F (fn 0 bN):=by
  simp only[aa]at *;omega
 have f29:0<=E.I F dm:=by
  have u:=iu (dN.2 ak) p6 h0 h1;have w:=p2;simp only[aa]at w
  rw[w];exact u
 clear h0 h1;have hq:E.I F cW=E.I F (fn 120 (pr av (pr (fn 1 (pr bc aq)) (fn 9 (pr (fn 1 (pr av (.int 0))) (.int 12)))))):=by
  simp only[aa]at *;omega
 have hr:E.I F dm=E.I F (fn 120 (pr av (pr (fn 1 (pr bN aB)) (fn 9 (pr (fn 1 (pr av (.int 0))) (.int 12)))))):=by
  simp only[aa]at *;omega
 have h0:0<=E.I F aq:=by
  simp only[aa]at *;omega
 have h1:E.I F aq<E.I F (fn 0 bc):=by
  simp only[aa]at *;omega
 have k0:0<=E.I F aB:=by
  simp only[aa]at *;omega
 have k1:E.I F aB<E.I F (fn 0 bN):=by
  simp only[aa]at *;omega
 have hn:E.I F (.ar .add .i64 aB (.int 1))=E.I F aB+1:=by
  simp only[aa,ae]at *
  obtain⟨w,ew,qw⟩:=ab (E.I F aB+1)
  simp only[ew];omega
 have ok:=@jz _ _ _ _ _ _ aA hq f28 hr f29;have st:=eM ao h0 h1 k0 k1 hn
 rw[ok]at st
 refine st.1 ?_;clear st ok hq hr;simp only[aa,bp,aS]at *;grind
def awq:=fb (fv::iP::iQ::td::qt::BU::(.not xd)::ta) BS<|jF fun F p0 p1 p2 p3 p4 p5 p6 p7 p8 p9 ak ao ap az aC aD=>by
 have h0:0<=E.I F aq:=by
  simp only[aa]at *;omega
 have h1:E.I F aq<E.I F (fn 0 bc):=by
  simp only[aa]at *;omega
 have f28:0<=E.I F cW:=by
  have u:=iv az h0 h1;have w:=p1;simp only[aa]at w
  rw[w];exact u
 clear h0 h1;have h0:0<=E.I F aB:=by
  simp only[aa]at *;omega
 have h1:E.I F aB<E.I F (fn 0 bN):=by
  simp only[aa]at *;omega
 have f29:0<=E.I F dm:=by
  have u:=iu (dN.2 aC) ak h0 h1;have w:=p2;simp only[aa]at w
  rw[w];exact u
 clear h0 h1;have hq:E.I F cW=E.I F (fn 120 (pr av (pr (fn 1 (pr bc aq)) (fn 9 (pr (fn 1 (pr av (.int 0))) (.int 12)))))):=by
  simp only[aa]at *;omega
 have hr:E.I F dm=E.I F (fn 120 (pr av (pr (fn 1 (pr bN aB)) (fn 9 (pr (fn 1 (pr av (.int 0))) (.int 12)))))):=by
  simp only[aa]at *;omega
 have h0:0<=E.I F aq:=by
  simp only[aa]at *;omega
 have h1:E.I F aq<E.I F (fn 0 bc):=by
  simp only[aa]at *;omega
 have k0:0<=E.I F aB:=by
  simp only[aa]at *;omega
 have k1:E.I F aB<E.I F (fn 0 bN):=by
  simp only[aa]at *;omega
 have hn:E.I F (.ar .add .i64 aB (.int 1))=E.I F aB+1:=by
  simp only[aa,ae]at *
  obtain⟨w,ew,qw⟩:=ab (E.I F aB+1)
  simp only[ew];omega
 have ok:=@jz _ _ _ _ _ _ aA hq f28 hr f29;have st:=eM p7 h0 h1 k0 k1 hn
 rw[ok]at st
 refine st.1 ?_;clear st ok hq hr;simp only[aa,bp,aS]at *;grind
def awr:=fb (fv::iP::iQ::te::(.not qu)::ta) BS<|lP fun F p0 p1 p2 p3 p4 p5 p6 p7 p8 p9 ak ao ap az=>by
 have h0:0<=E.I F aq:=by
  simp only[aa]at *;omega
 have h1:E.I F aq<E.I F (fn 0 bc):=by
  simp only[aa]at *;omega
 have f28:0<=E.I F cW:=by
  have u:=iv ao h0 h1;have w:=p1;simp only[aa]at w
  rw[w];exact u
 clear h0 h1;have h0:0<=E.I F aB:=by
  simp only[aa]at *;omega
 have h1:E.I F aB<E.I F (fn 0 bN):=by
  simp only[aa]at *;omega
 have f29:0<=E.I F dm:=by
  have u:=iu (dN.2 ap) p8 h0 h1;have w:=p2;simp only[aa]at w
  rw[w];exact u
 clear h0 h1;have hq:E.I F cW=E.I F (fn 120 (pr av (pr (fn 1 (pr bc aq)) (fn 9 (pr (fn 1 (pr av (.int 0))) (.int 12)))))):=by
  simp only[aa]at *;omega
 have hr:E.I F dm=E.I F (fn 120 (pr av (pr (fn 1 (pr bN aB)) (fn 9 (pr (fn 1 (pr av (.int 0))) (.int 12)))))):=by
  simp only[aa]at *;omega
 have h0:0<=E.I F aq:=by
  simp only[aa]at *;omega
 have h1:E.I F aq<E.I F (fn 0 bc):=by
  simp only[aa]at *;omega
 have k0:0<=E.I F aB:=by
  simp only[aa]at *;omega
 have k1:E.I F aB<E.I F (fn 0 bN):=by
  simp only[aa]at *;omega
 have hn:E.I F (.ar .add .i64 aB (.int 1))=E.I F aB+1:=by
  simp only[aa,ae]at *
  obtain⟨w,ew,qw⟩:=ab (E.I F aB+1)
  simp only[ew];omega
 have ok:=@jz _ _ _ _ _ _ aA hq f28 hr f29;have st:=eM p5 h0 h1 k0 k1 hn
 rw[ok]at st
 refine st.1 ?_;clear st ok hq hr;simp only[aa,bp,aS]at *;grind
def aws:=fb [kb,fv,qr,s7] (cmp .lss (fn 7 (pr (fn 0 bN) (.ar .add .i64 aB (.int 1)))) (fn 7 (pr (fn 0 bN) aB)))<|aw fun F p0 p1 p2 p3=>by
 have:=ai p0
 try simp only[aa,ae]at *
 obtain⟨a11,ea11,qa11⟩:=ab ((E.I F aB)+(1))
 try simp only[ea11]at *
 omega
def awt:=fb [mU,jt] (.not (cmp .lss (fn 7 (pr (fn 0 bc) (.ar .add .i64 aq (.int 1)))) (.int 0)))<|am fun F p0 p1=>by
 try simp only[aa,ae]at *
 obtain⟨a6,ea6,qa6⟩:=ab ((E.I F aq)+(1))
 try simp only[ea6]at *
 omega
def awu:=fb [Xy] (cmp .eql (fn 6 (pr (fn 0 s8) (.int 2))) (fn 8 (pr (fn 6 (pr xc (.int 1))) (.int 2))))<|ah fun F p0=>by
 simp only[aa]at *;omega
def awv:=fb (fv::iP::iQ::td::qt::BU::(.not xd)::tc) BT<|jF fun F p0 p1 p2 p3 p4 p5 p6 p7 p8 p9 ak ao ap az aC aD=>by
 have h0:0<=E.I F aq:=by
  simp only[aa]at *;omega
 have h1:E.I F aq<E.I F (fn 0 bc):=by
  simp only[aa]at *;omega
 have f28:0<=E.I F cW:=by
  have u:=iv ap h0 h1;have w:=p1;simp only[aa]at w
  rw[w];exact u
 clear h0 h1;have h0:0<=E.I F aB:=by
  simp only[aa]at *;omega
 have h1:E.I F aB<E.I F (fn 0 bN):=by
  simp only[aa]at *;omega
 have f29:0<=E.I F dm:=by
  have u:=iu (dN.2 az) p9 h0 h1;have w:=p2;simp only[aa]at w
  rw[w];exact u
 clear h0 h1;have hq:E.I F cW=E.I F (fn 120 (pr av (pr (fn 1 (pr bc aq)) (fn 9 (pr (fn 1 (pr av (.int 0))) (.int 12)))))):=by
  simp only[aa]at *;omega
 have hr:E.I F dm=E.I F (fn 120 (pr av (pr (fn 1 (pr bN aB)) (fn 9 (pr (fn 1 (pr av (.int 0))) (.int 12)))))):=by
  simp only[aa]at *;omega
 have h0:0<=E.I F aq:=by
  simp only[aa]at *;omega
 have h1:E.I F aq<E.I F (fn 0 bc):=by
  simp only[aa]at *;omega
 have k0:0<=E.I F aB:=by
  simp only[aa]at *;omega
 have k1:E.I F aB<E.I F (fn 0 bN):=by
  simp only[aa]at *;omega
 have hn:E.I F (.ar .add .i64 aB (.int 1))=E.I F aB+1:=by
  simp only[aa,ae]at *
  obtain⟨w,ew,qw⟩:=ab (E.I F aB+1)
  simp only[ew];omega
 have ok:=@jz _ _ _ _ _ _ aA hq f28 hr f29;have st:=eM aC h0 h1 k0 k1 hn
 rw[ok]at st
 refine st.1 ?_;clear st ok hq hr;simp only[aa,bp,aS]at *;grind
def aww:=fb (fv::iP::iQ::te::(.not qu)::tc) BT<|lP fun F p0 p1 p2 p3 p4 p5 p6 p7 p8 p9 ak ao ap az=>by
 have h0:0<=E.I F aq:=by
  simp only[aa]at *;omega
 have h1:E.I F aq<E.I F (fn 0 bc):=by
  simp only[aa]at *;omega
 have f28:0<=E.I F cW:=by
  have u:=iv ak h0 h1;have w:=p1;simp only[aa]at w
  rw[w];exact u
 clear h0 h1;have h0:0<=E.I F aB:=by
  simp only[aa]at *;omega
 have h1:E.I F aB<E.I F (fn 0 bN):=by
  simp only[aa]at *;omega
 have f29:0<=E.I F dm:=by
  have u:=iu (dN.2 ao) p7 h0 h1;have w:=p2;simp only[aa]at w
  rw[w];exact u
 clear h0 h1;have hq:E.I F cW=E.I F (fn 120 (pr av (pr (fn 1 (pr bc aq)) (fn 9 (pr (fn 1 (pr av (.int 0))) (.int 12)))))):=by
  simp only[aa]at *;omega
 have hr:E.I F dm=E.I F (fn 120 (pr av (pr (fn 1 (pr bN aB)) (fn 9 (pr (fn 1 (pr av (.int 0))) (.int 12)))))):=by
  simp only[aa]at *;omega
 have h0:0<=E.I F aq:=by
  simp only[aa]at *;omega
 have h1:E.I F aq<E.I F (fn 0 bc):=by
  simp only[aa]at *;omega
 have k0:0<=E.I F aB:=by
  simp only[aa]at *;omega
 have k1:E.I F aB<E.I F (fn 0 bN):=by
  simp only[aa]at *;omega
 have hn:E.I F (.ar .add .i64 aB (.int 1))=E.I F aB+1:=by
  simp only[aa,ae]at *
  obtain⟨w,ew,qw⟩:=ab (E.I F aB+1)
  simp only[ew];omega
 have ok:=@jz _ _ _ _ _ _ aA hq f28 hr f29;have st:=eM ap h0 h1 k0 k1 hn
 rw[ok]at st
 refine st.1 ?_;clear st ok hq hr;simp only[aa,bp,aS]at *;grind
def awx:=fb (fv::iP::iQ::BV::s9::BW::te::qu::td::qt::BU::xd::ta) XA<|Eb fun F p0 p1 p2 p3 p4 p5 p6 p7 p8 p9 ak ao ap az aC aD aR aZ bl bE bO=>by
 have h0:0<=E.I F aq:=by
  simp only[aa]at *;omega
 have h1:E.I F aq<E.I F (fn 0 bc):=by
  simp only[aa]at *;omega
 have f28:0<=E.I F cW:=by
  have u:=iv bl h0 h1;have w:=p1;simp only[aa]at w
  rw[w];exact u
 clear h0 h1;have h0:0<=E.I F aB:=by
  simp only[aa]at *;omega
 have h1:E.I F aB<E.I F (fn 0 bN):=by
  simp only[aa]at *;omega
 have f29:0<=E.I F dm:=by
  have u:=iu (dN.2 bE) aD h0 h1;have w:=p2;simp only[aa]at w
  rw[w];exact u
 clear h0 h1;have hq:E.I F cW=E.I F (fn 120 (pr av (pr (fn 1 (pr bc aq)) (fn 9 (pr (fn 1 (pr av (.int 0))) (.int 12)))))):=by
  simp only[aa]at *;omega
 have hr:E.I F dm=E.I F (fn 120 (pr av (pr (fn 1 (pr bN aB)) (fn 9 (pr (fn 1 (pr av (.int 0))) (.int 12)))))):=by
  simp only[aa]at *;omega
 have h0:0<=E.I F aq:=by
  simp only[aa]at *;omega
 have h1:E.I F aq<E.I F (fn 0 bc):=by
  simp only[aa]at *;omega
 have k0:0<=E.I F aB:=by
  simp only[aa]at *;omega
 have k1:E.I F aB<E.I F (fn 0 bN):=by
  simp only[aa]at *;omega
 have hn:E.I F (.ar .add .i64 aB (.int 1))=E.I F aB+1:=by
  simp only[aa,ae]at *
  obtain⟨w,ew,qw⟩:=ab (E.I F aB+1)
  simp only[ew];omega
 have ok:=@jz _ _ _ _ _ _ aA hq f28 hr f29;have st:=eM ap h0 h1 k0 k1 hn
 rw[ok]at st
 refine ag7 (lO hq f28) (lO hr f29) ((st.2 ?_).2 rfl);clear st ok hq hr;simp only[aa,bp,aS]at *;grind
def awy:=fb (fv::iP::iQ::BV::s9::BW::te::qu::td::(.not qt)::ta) XA<|tX fun F p0 p1 p2 p3 p4 p5 p6 p7 p8 p9 ak ao ap az aC aD aR aZ bl=>by
 have h0:0<=E.I F aq:=by
  simp only[aa]at *;omega
 have h1:E.I F aq<E.I F (fn 0 bc):=by
  simp only[aa]at *;omega
 have f28:0<=E.I F cW:=by
  have u:=iv aR h0 h1;have w:=p1;simp only[aa]at w
  rw[w];exact u
 clear h0 h1;have h0:0<=E.I F aB:=by
  simp only[aa]at *;omega
 have h1:E.I F aB<E.I F (fn 0 bN):=by
  simp only[aa]at *;omega
 have f29:0<=E.I F dm:=by
  have u:=iu (dN.2 aZ) az h0 h1;have w:=p2;simp only[aa]at w
  rw[w];exact u
 clear h0 h1;have hq:E.I F cW=E.I F (fn 120 (pr av (pr (fn 1 (pr bc aq)) (fn 9 (pr (fn 1 (pr av (.int 0))) (.int 12)))))):=by
  simp only[aa]at *;omega
 have hr:E.I F dm=E.I F (fn 120 (pr av (pr (fn 1 (pr bN aB)) (fn 9 (pr (fn 1 (pr av (.int 0))) (.int 12)))))):=by
  simp only[aa]at *;omega
 have h0:0<=E.I F aq:=by
  simp only[aa]at *;omega
 have h1:E.I F aq<E.I F (fn 0 bc):=by
  simp only[aa]at *;omega
 have k0:0<=E.I F aB:=by
  simp only[aa]at *;omega
 have k1:E.I F aB<E.I F (fn 0 bN):=by
  simp only[aa]at *;omega
 have hn:E.I F (.ar .add .i64 aB (.int 1))=E.I F aB+1:=by
  simp only[aa,ae]at *
  obtain⟨w,ew,qw⟩:=ab (E.I F aB+1)
  simp only[ew];omega
 have ok:=@jz _ _ _ _ _ _ aA hq f28 hr f29;have st:=eM ak h0 h1 k0 k1 hn
 rw[ok]at st
 refine ag7 (lO hq f28) (lO hr f29) ((st.2 ?_).2 rfl);clear st ok hq hr;simp only[aa,bp,aS]at *;grind
def awz:=fb [fv,qr] (.not (cmp .lss (fn 7 (pr (fn 0 bN) (.ar .add .i64 aB (.int 1)))) (.int 0)))<|am fun F p0 p1=>by
 try simp only[aa,ae]at *
 obtain⟨a11,ea11,qa11⟩:=ab ((E.I F aB)+(1))
 try simp only[ea11]at *
 omega
def awA:=fb (fv::iP::iQ::BV::s9::BW::te::qu::td::qt::BU::xd::tc) XB<|Eb fun F p0 p1 p2 p3 p4 p5 p6 p7 p8 p9 ak ao ap az aC aD aR aZ bl bE bO=>by
 have h0:0<=E.I F aq:=by
  simp only[aa]at *;omega
 have h1:E.I F aq<E.I F (fn 0 bc):=by
  simp only[aa]at *;omega
 have f28:0<=E.I F cW:=by
  have u:=iv aZ h0 h1;have w:=p1;simp only[aa]at w
  rw[w];exact u
 clear h0 h1;have h0:0<=E.I F aB:=by
  simp only[aa]at *;omega
 have h1:E.I F aB<E.I F (fn 0 bN):=by
  simp only[aa]at *;omega
 have f29:0<=E.I F dm:=by
  have u:=iu (dN.2 bl) aC h0 h1;have w:=p2;simp only[aa]at w
  rw[w];exact u
 clear h0 h1;have hq:E.I F cW=E.I F (fn 120 (pr av (pr (fn 1 (pr bc aq)) (fn 9 (pr (fn 1 (pr av (.int 0))) (.int 12)))))):=by
  simp only[aa]at *;omega
 have hr:E.I F dm=E.I F (fn 120 (pr av (pr (fn 1 (pr bN aB)) (fn 9 (pr (fn 1 (pr av (.int 0))) (.int 12)))))):=by
  simp only[aa]at *;omega
 have h0:0<=E.I F aq:=by
  simp only[aa]at *;omega
 have h1:E.I F aq<E.I F (fn 0 bc):=by
  simp only[aa]at *;omega
 have k0:0<=E.I F aB:=by
  simp only[aa]at *;omega
 have k1:E.I F aB<E.I F (fn 0 bN):=by
  simp only[aa]at *;omega
 have hn:E.I F (.ar .add .i64 aB (.int 1))=E.I F aB+1:=by
  simp only[aa,ae]at *
  obtain⟨w,ew,qw⟩:=ab (E.I F aB+1)
  simp only[ew];omega
 have ok:=@jz _ _ _ _ _ _ aA hq f28 hr f29;have st:=eM bE h0 h1 k0 k1 hn
 rw[ok]at st
 refine ag8 (lO hq f28) (lO hr f29) (st.2 ?_).1;clear st ok hq hr;simp only[aa,bp,aS]at *;grind
def awB:=fb (fv::iP::iQ::BV::s9::BW::te::qu::td::(.not qt)::tc) XB<|tX fun F p0 p1 p2 p3 p4 p5 p6 p7 p8 p9 ak ao ap az aC aD aR aZ bl=>by
 have h0:0<=E.I F aq:=by
  simp only[aa]at *;omega
 have h1:E.I F aq<E.I F (fn 0 bc):=by
  simp only[aa]at *;omega
 have f28:0<=E.I F cW:=by
  have u:=iv aD h0 h1;have w:=p1;simp only[aa]at w
  rw[w];exact u
 clear h0 h1;have h0:0<=E.I F aB:=by
  simp only[aa]at *;omega
 have h1:E.I F aB<E.I F (fn 0 bN):=by
  simp only[aa]at *;omega
 have f29:0<=E.I F dm:=by
  have u:=iu (dN.2 aR) ap h0 h1;have w:=p2;simp only[aa]at w
  rw[w];exact u
 clear h0 h1;have hq:E.I F cW=E.I F (fn 120 (pr av (pr (fn 1 (pr bc aq)) (fn 9 (pr (fn 1 (pr av (.int 0))) (.int 12)))))):=by
  simp only[aa]at *;omega
 have hr:E.I F dm=E.I F (fn 120 (pr av (pr (fn 1 (pr bN aB)) (fn 9 (pr (fn 1 (pr av (.int 0))) (.int 12)))))):=by
  simp only[aa]at *;omega
 have h0:0<=E.I F aq:=by
  simp only[aa]at *;omega
 have h1:E.I F aq<E.I F (fn 0 bc):=by
  simp only[aa]at *;omega
 have k0:0<=E.I F aB:=by
  simp only[aa]at *;omega
 have k1:E.I F aB<E.I F (fn 0 bN):=by
  simp only[aa]at *;omega
 have hn:E.I F (.ar .add .i64 aB (.int 1))=E.I F aB+1:=by
  simp only[aa,ae]at *
  obtain⟨w,ew,qw⟩:=ab (E.I F aB+1)
  simp only[ew];omega
 have ok:=@jz _ _ _ _ _ _ aA hq f28 hr f29;have st:=eM aZ h0 h1 k0 k1 hn
 rw[ok]at st
 refine ag8 (lO hq f28) (lO hr f29) (st.2 ?_).1;clear st ok hq hr;simp only[aa,bp,aS]at *;grind
def p59:List Fa:=[av3,av4,Rj,av5,av6,av7,av8,av9,awa,awb,awc,awd,awe,Ri,awf,Rk,awg,awh,awi,awj,awk,awl,awm,awn,awo,awp,awq,awr,aws,awt,awu,awv,aww,awx,awy,awz,awA,awB]
theorem aLv:aL Tryz.prog (bh (aKe)):=sc p59 (aE6) aeo ([.down kT]) (by kernel_rfl) (by kernel_rfl)
def aIB:Nl:=nc aLv aeo
end
end Go.Proofs.YtnggbcblogpnfaaGreat.combatBlocks
