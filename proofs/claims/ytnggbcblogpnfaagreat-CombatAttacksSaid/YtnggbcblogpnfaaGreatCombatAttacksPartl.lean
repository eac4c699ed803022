/-
  CombatAttacks: contracts of functions, part 12.
-/
import Derived.Test.YtnggbcblogpnfaaGreatCombatAttacksPartk
namespace Go.Proofs.YtnggbcblogpnfaaGreat.combatAttacks
open Go.ChangeShapes Go.WideShapes Go.ChangeAt Go.RowKit
open Go.SX
open Go.SX.E (fn pr cmp var)
set_option linter.unusedVariables false
set_option linter.unusedSimpArgs false
set_option maxRecDepth 100000
noncomputable section
abbrev cq:E:=var 2
abbrev AN:E:=cmp .lss cq (.int 0)
abbrev wb:E:=var 13
abbrev QQ3:E:=cmp .eql (.ar .and .i64 (.int 0) wb) wb
abbrev bo:E:=var 0
abbrev QQ5:E:=pr cq wb
abbrev QQ6:E:=pr bo QQ5
abbrev TY:E:=fn 222 QQ6
abbrev Ua:E:=.iff QQ3 TY
abbrev sB:E:=.not AN
abbrev AO:E:=cmp .lss cq (fn 9 (pr bo (.int 14)))
abbrev AS:E:=cmp .eql cq (.int (-1))
abbrev TE:E:=.bool false
abbrev Im:E:=fn 223 (pr bo cq)
abbrev TJ:E:=.iff TE Im
abbrev bu:E:=var 1
abbrev axt:E:=cmp .lss (.int 500) bu
abbrev In:E:=.not axt
abbrev axu:E:=cmp .lss bu (.int 1)
abbrev Io:E:=.not axu
abbrev TK:E:=fn 228 bo
abbrev axv:E:=cmp .lss (.int 30) (fn 9 (pr bo (.int 12)))
abbrev axw:E:=.not axv
abbrev TL:=[axw]
abbrev axx:=TK::TL
abbrev axy:=Io::axx
abbrev TM:=In::axy
abbrev aI:E:=var 8
abbrev aP:E:=var 9
abbrev A0:E:=cmp .lss aI aP
abbrev axz:E:=cmp .lss (fn 9 (pr bo (.int 12))) aP
abbrev Ip:E:=.not axz
abbrev axA:E:=cmp .lss aI (.int 0)
abbrev Iq:E:=.not axA
abbrev kN:=A0::Ip::Iq::TL
abbrev A1:E:=.not A0
abbrev A2:E:=cmp .lss aI (fn 9 (pr bo (.int 12)))
abbrev axB:E:=cmp .lss aP aI
abbrev TN:E:=.not axB
abbrev Ir:=[TN]
abbrev axC:E:=cmp .lss (fn 9 (pr bo (.int 12))) aI
abbrev TO:E:=.not axC
abbrev axD:=Ip::Ir
abbrev axE:List E:=(.not A2)::axD
abbrev TP:=A1::axE
abbrev axF:E:=pr aI aP
abbrev axG:E:=pr bu axF
abbrev axH:E:=pr bo axG
abbrev TQ:E:=fn 226 axH
abbrev axI:E:=cmp .eql (fn 1 (pr bo (fn 6 (pr (fn 8 (pr aI (.int 12))) (.int 0))))) bu
abbrev TR:E:=.and A2 axI
abbrev TS:E:=cmp .lss (.ar .sub .i64 (fn 1 (pr bo (fn 6 (pr (fn 8 (pr (.wr .i64 (.ar .shr .u64 (.wr .u64 (.ar .add .i64 aI aP)) (.int 1))) (.int 12))) (.int 0))))) bu) (.int 0)
abbrev axJ:=Iq::TM
abbrev axK:=Ip::axJ
abbrev TT:=TQ::axK
abbrev sy:E:=fn 115 bo
abbrev gX:E:=var 3
abbrev TU:E:=cmp .lss gX (fn 9 (pr (fn 1 (pr bo (.int 0))) (.int 12)))
abbrev axL:E:=cmp .lss gX (.int 0)
abbrev TV:E:=.not axL
abbrev Is:E:=fn 226 (pr (fn 1 (pr bo (.int 0))) (pr bu (pr gX gX)))
abbrev axM:E:=cmp .lss (fn 120 (pr bo (pr bu (fn 9 (pr (fn 1 (pr bo (.int 0))) (.int 12)))))) (.int 0)
abbrev It:E:=.not axM
abbrev Iu:=[It,sy]
abbrev TW:=[TV]
abbrev jc:E:=fn 115 bu
abbrev Iv:E:=.iff gX jc
abbrev axN:E:=pr cq (fn 9 (pr (fn 1 (pr bu (.int 0))) (.int 12)))
abbrev axO:E:=pr bu axN
abbrev TX:E:=pr bo axO
abbrev Iw:E:=fn 224 (pr (fn 10 (.int 0)) TX)
abbrev mo:E:=fn 117 bu
abbrev aX:E:=var 19
abbrev f9:E:=cmp .lss aX (fn 9 (pr (fn 1 (pr bu (.int 0))) (.int 12)))
abbrev Ix:E:=.not f9
abbrev axP:E:=cmp .lss (fn 9 (pr (fn 1 (pr bu (.int 0))) (.int 12))) aX
abbrev Iy:E:=.not axP
abbrev kP:E:=var 17
abbrev axQ:E:=cmp .lss aX kP
abbrev TZ:E:=.not axQ
abbrev sA:E:=var 16
abbrev Iz:E:=cmp .eql (fn 0 sA) kP
abbrev Ub:=[TZ,Iz]
abbrev axR:E:=pr cq aX
abbrev axS:E:=pr bu axR
abbrev Uc:E:=pr bo axS
abbrev IA:E:=fn 224 (pr (fn 10 (.int 0)) Uc)
abbrev axT:=[Iy]
abbrev axU:=IA::axT
abbrev Ud:=Ix::axU
abbrev pQ:E:=.not (cmp .lss aX (.int 0))
abbrev IB:=[f9,pQ]
abbrev IC:=mo::IB
abbrev axV:E:=pr sA Uc
abbrev axW:E:=fn 224 axV
abbrev Ue:=[axW]
abbrev axX:=Iy::Ue
abbrev Uf:=Ix::axX
abbrev axY:E:=pr sA TX
abbrev Ug:E:=fn 224 axY
abbrev axk:=pQ::Ub
abbrev axl:=f9::axk
abbrev Il:=mo::axl
abbrev ss:E:=cmp .eql (fn 1 (pr (fn 1 (pr bu (.int 0))) (fn 6 (pr (fn 8 (pr aX (.int 12))) (.int 2))))) cq
abbrev TB:=mo::Ue
abbrev AP:=pQ::TB
abbrev AQ:E:=pr bo (pr bu (pr cq (.ar .add .i64 aX (.int 1))))
abbrev AR:E:=fn 224 (pr sA AQ)
abbrev pP:E:=var 20
abbrev su:E:=.iff pP (fn 223 (pr bo (fn 1 (pr (fn 1 (pr bu (.int 0))) (fn 6 (pr (fn 8 (pr aX (.int 12))) (.int 1)))))))
abbrev v8:E:=cmp .eql cq (.int 0)
abbrev AT:E:=.not v8
abbrev axm:E:=cmp .lss (var 21) (.int (-1))
abbrev TC:E:=.not axm
abbrev wa:E:=cmp .lss (var 21) (.int 0)
abbrev sx:E:=.not wa
abbrev AU:E:=.iff sx (fn 114 (pr (fn 1 (pr bu (.int 22))) (fn 1 (pr (fn 1 (pr bu (.int 0))) (fn 6 (pr (fn 8 (pr aX (.int 12))) (.int 0)))))))
abbrev TD:E:=cmp .lss (.int 1) cq
abbrev AV:E:=.not TD
abbrev axn:=sB::TB
abbrev axo:=AV::axn
abbrev TF:=pQ::axo
abbrev AW:E:=.iff sx (fn 114 (pr (fn 1 (pr bu (.int 8))) (fn 1 (pr (fn 1 (pr bu (.int 0))) (fn 6 (pr (fn 8 (pr aX (.int 12))) (.int 0)))))))
abbrev axp:=[pQ,mo]
abbrev AX:=IA::axp
abbrev AY:E:=fn 224 (pr (fn 10 (.int 0)) AQ)
abbrev axq:=[pQ,AV,sB,mo]
abbrev TG:=IA::axq
abbrev axr:E:=pr (fn 23 (pr (fn 1 (pr (fn 1 (pr bu (.int 0))) (fn 6 (pr (fn 8 (pr aX (.int 12))) (.int 0))))) (fn 10 (.int 0)))) AQ
abbrev TH:E:=fn 224 axr
abbrev axs:E:=pr (fn 3 (pr sA (fn 23 (pr (fn 1 (pr (fn 1 (pr bu (.int 0))) (fn 6 (pr (fn 8 (pr aX (.int 12))) (.int 0))))) (fn 10 (.int 0)))))) AQ
abbrev TI:E:=fn 224 axs
abbrev AZ:E:=.imp jc Iw
def Qf:=fb [AN] Ua<|ah fun F p0=>by
 have h:E.I F cq<0\/¬E.I F cq<E.I F (fn 9 (pr bo (.int 14))):=by
  simp only[aa]at *;omega
 exact abn h
def Qg:=fb [sB,AO] (.iff (cmp .eql (.ar .and .i64 (fn 1 (pr bo (fn 6 (pr (fn 8 (pr cq (.int 14))) (.int 10))))) wb) wb) TY)<|ap fun F p0 p1=>by
 have h0:0<=E.I F cq:=by
  simp only[aa]at *;omega
 have h1:E.I F cq<E.I F (fn 9 (pr bo (.int 14))):=by
  simp only[aa]at *;omega
 exact aFm h0 h1
def Qi:=fb [(.not AO)] Ua<|ah fun F p0=>by
 have h:E.I F cq<0\/¬E.I F cq<E.I F (fn 9 (pr bo (.int 14))):=by
  simp only[aa]at *;omega
 exact abn h
def pi:List Fa:=[cY,Qf,Qg,Qi]
theorem aJj:aR Tryz.prog (bj (afk 39)):=sc pi ([]) ac5 ([]) (by kernel_rfl) (by kernel_rfl)
def ac6:Nl:=nc aJj ac5
def EM:List Fa:=[cY,Qf,Qg,Qi]
theorem aJk:aR Tryz.prog (bj (afk 48)):=sc EM ([]) ac6 ([]) (by kernel_rfl) (by kernel_rfl)
def ac7:Nl:=nc aJk ac6
def Qj:=fb [(.not AS),AN] TJ<|ap fun F p0 p1=>by
 have hn:¬E.I F cq=-1:=by
  simp only[aa]at *;omega
 have h:E.I F cq<0\/¬E.I F cq<E.I F (fn 9 (pr bo (.int 14))):=by
  simp only[aa]at *;omega
 exact ZX hn h
def Qk:=fb [(.not AS),sB,AO] (.iff (cmp .eql (fn 1 (pr bo (fn 6 (pr (fn 8 (pr cq (.int 14))) (.int 1))))) (.int 2)) Im)<|am fun F p0 p1 p2=>by
 have hn:¬E.I F cq=-1:=by
  simp only[aa]at *;omega
 have h0:0<=E.I F cq:=by
  simp only[aa]at *;omega
 have h1:E.I F cq<E.I F (fn 9 (pr bo (.int 14))):=by
  simp only[aa]at *;omega
 exact aED hn h0 h1
def Ql:=fb [(.not AS),(.not AO)] TJ<|ap fun F p0 p1=>by
 have hn:¬E.I F cq=-1:=by
  simp only[aa]at *;omega
 have h:E.I F cq<0\/¬E.I F cq<E.I F (fn 9 (pr bo (.int 14))):=by
  simp only[aa]at *;omega
 exact ZX hn h
def Qm:=fb [AS] (.iff (.bool true) Im)<|ah fun F p0=>by
 have hn:E.I F cq=-1:=by
  simp only[aa]at *;omega
 exact aEE hn
def p46:List Fa:=[cY,Qj,Qk,Ql,Qm]
theorem aJl:aR Tryz.prog (bj (afh 70)):=sc p46 ([]) ac7 ([]) (by kernel_rfl) (by kernel_rfl)
def ac8:Nl:=nc aJl ac7
def p47:List Fa:=[cY,Qj,Qk,Ql,Qm]
theorem aJm:aR Tryz.prog (bj (afh 86)):=sc p47 ([]) ac8 ([]) (by kernel_rfl) (by kernel_rfl)
def ac9:Nl:=nc aJm ac8
def aqL:=fb TM (fn 226 (pr bo (pr bu (pr (.int 0) (fn 9 (pr bo (.int 12)))))))<|aB fun F p0 p1 p2 p3=>by
 exact aK4 (by simp only[aa]at *;omega) (by simp only[aa]at *;omega)
def aqM:=fb kN (.not (cmp .lss (.wr .i64 (.ar .shr .u64 (.wr .u64 (.ar .add .i64 aI aP)) (.int 1))) (.int 0)))<|aB fun F p0 p1 p2 p3=>by
 have b0:0<=E.I F aI:=by
  simp only[aa,and_true]at *;omega
 have b1:0<=E.I F aP:=by
  simp only[aa,and_true]at *;omega
 have b2:E.I F aI<=1000:=by
  simp only[aa,and_true]at *;omega
 have b3:E.I F aP<=1000:=by
  simp only[aa,and_true]at *;omega
 have hm:=i9 b0 b1 b2 b3;have m0:0<=E.I F (.wr .i64 (.ar .shr .u64 (.wr .u64 (.ar .add .i64 aI aP)) (.int 1))):=by
  rw[hm]
  simp only[aa,and_true]at *;omega
 obtain⟨w,ew,qw⟩:=ab (E.I F (fn 1 (pr bo (fn 6 (pr (fn 8 (pr (.wr .i64 (.ar .shr .u64 (.wr .u64 (.ar .add .i64 aI aP)) (.int 1))) (.int 12))) (.int 0)))))-E.I F bu)
 obtain⟨w1,ew1,qw1⟩:=ab (E.I F (.wr .i64 (.ar .shr .u64 (.wr .u64 (.ar .add .i64 aI aP)) (.int 1)))+1)
 simp only[aa,ae]at *;try simp only[ew,ew1]at *
 omega
def aqN:=fb (A1::A2::Ir) TO<|am fun F p0 p1 p2=>by
 try simp only[aa,ae]at *
 omega
def aqO:=fb TP TO<|aB fun F p0 p1 p2 p3=>by
 try simp only[aa,ae]at *
 omega
def aqP:=fb kN (cmp .lss (.wr .i64 (.ar .shr .u64 (.wr .u64 (.ar .add .i64 aI aP)) (.int 1))) (fn 9 (pr bo (.int 12))))<|aB fun F p0 p1 p2 p3=>by
 have b0:0<=E.I F aI:=by
  simp only[aa,and_true]at *;omega
 have b1:0<=E.I F aP:=by
  simp only[aa,and_true]at *;omega
 have b2:E.I F aI<=1000:=by
  simp only[aa,and_true]at *;omega
 have b3:E.I F aP<=1000:=by
  simp only[aa,and_true]at *;omega
 have hm:=i9 b0 b1 b2 b3;have m1:E.I F (.wr .i64 (.ar .shr .u64 (.wr .u64 (.ar .add .i64 aI aP)) (.int 1)))<E.I F (fn 9 (pr bo (.int 12))):=by
  rw[hm]
  simp only[aa,and_true]at *;omega
 simp only[aa,ae]at *;try simp only[ew,ew1]at *
 omega
def aqQ:=fb (A1::TQ::Ir) (fn 226 (pr bo (pr bu (pr aI aI))))<|am fun F p0 p1 p2=>by
 exact aK1 p1 (by simp only[aa]at *;omega)
def aqR:=fb kN (.not (cmp .lss (.ar .add .i64 (.wr .i64 (.ar .shr .u64 (.wr .u64 (.ar .add .i64 aI aP)) (.int 1))) (.int 1)) (.int 0)))<|aB fun F p0 p1 p2 p3=>by
 have b0:0<=E.I F aI:=by
  simp only[aa,and_true]at *;omega
 have b1:0<=E.I F aP:=by
  simp only[aa,and_true]at *;omega
 have b2:E.I F aI<=1000:=by
  simp only[aa,and_true]at *;omega
 have b3:E.I F aP<=1000:=by
  simp only[aa,and_true]at *;omega
 have hm:=i9 b0 b1 b2 b3;have m0:0<=E.I F (.wr .i64 (.ar .shr .u64 (.wr .u64 (.ar .add .i64 aI aP)) (.int 1))):=by
  rw[hm]
  simp only[aa,and_true]at *;omega
 have m1:E.I F (.wr .i64 (.ar .shr .u64 (.wr .u64 (.ar .add .i64 aI aP)) (.int 1)))<E.I F (fn 9 (pr bo (.int 12))):=by
  rw[hm]
  simp only[aa,and_true]at *;omega
 obtain⟨w,ew,qw⟩:=ab (E.I F (fn 1 (pr bo (fn 6 (pr (fn 8 (pr (.wr .i64 (.ar .shr .u64 (.wr .u64 (.ar .add .i64 aI aP)) (.int 1))) (.int 12))) (.int 0)))))-E.I F bu)
 obtain⟨w1,ew1,qw1⟩:=ab (E.I F (.wr .i64 (.ar .shr .u64 (.wr .u64 (.ar .add .i64 aI aP)) (.int 1)))+1)
 simp only[aa,ae]at *;try simp only[ew,ew1]at *
 omega
def aqS:=fb kN (.not (cmp .lss (.wr .i64 (.ar .shr .u64 (.wr .u64 (.ar .add .i64 aI aP)) (.int 1))) aI))<|aB fun F p0 p1 p2 p3=>by
 have b0:0<=E.I F aI:=by
  simp only[aa,and_true]at *;omega
 have b1:0<=E.I F aP:=by
  simp only[aa,and_true]at *;omega
 have b2:E.I F aI<=1000:=by
  simp only[aa,and_true]at *;omega
 have b3:E.I F aP<=1000:=by
  simp only[aa,and_true]at *;omega
 have:=i9 b0 b1 b2 b3
 obtain⟨w,ew,qw⟩:=ab (E.I F (fn 1 (pr bo (fn 6 (pr (fn 8 (pr (.wr .i64 (.ar .shr .u64 (.wr .u64 (.ar .add .i64 aI aP)) (.int 1))) (.int 12))) (.int 0)))))-E.I F bu)
 obtain⟨w1,ew1,qw1⟩:=ab (E.I F (.wr .i64 (.ar .shr .u64 (.wr .u64 (.ar .add .i64 aI aP)) (.int 1)))+1)
 simp only[aa,ae]at *;try simp only[ew,ew1]at *
 omega
def aqT:=fb [TK,A1,A2,TN,Iq,In,Io] (.iff (cmp .eql (.ar .sub .i64 (fn 1 (pr bo (fn 6 (pr (fn 8 (pr aI (.int 12))) (.int 0))))) bu) (.int 0)) TR)<|cV fun F p0 p1 p2 p3 p4 p5 p6=>by
 have:=Lm p0 (i:=aI) (by simp only[aa]at *;omega) (by simp only[aa]at *;omega)
 obtain⟨w,ew,qw⟩:=ab (E.I F (fn 1 (pr bo (fn 6 (pr (fn 8 (pr aI (.int 12))) (.int 0)))))-E.I F bu)
 simp only[aa,ae]at *;try simp only[ew]at *
 omega
def aqU:=fb TP (.iff TE TR)<|aB fun F p0 p1 p2 p3=>by
 rw[bg]
 simp only[aa,Bool.false_eq_true]at *;simp_all;intro h;omega
def aqV:=fb kN (.not (cmp .lss aP (.ar .add .i64 (.wr .i64 (.ar .shr .u64 (.wr .u64 (.ar .add .i64 aI aP)) (.int 1))) (.int 1))))<|aB fun F p0 p1 p2 p3=>by
 have b0:0<=E.I F aI:=by
  simp only[aa,and_true]at *;omega
 have b1:0<=E.I F aP:=by
  simp only[aa,and_true]at *;omega
 have b2:E.I F aI<=1000:=by
  simp only[aa,and_true]at *;omega
 have b3:E.I F aP<=1000:=by
  simp only[aa,and_true]at *;omega
 have hm:=i9 b0 b1 b2 b3;have m0:0<=E.I F (.wr .i64 (.ar .shr .u64 (.wr .u64 (.ar .add .i64 aI aP)) (.int 1))):=by
  rw[hm]
  simp only[aa,and_true]at *;omega
 have m1:E.I F (.wr .i64 (.ar .shr .u64 (.wr .u64 (.ar .add .i64 aI aP)) (.int 1)))<E.I F (fn 9 (pr bo (.int 12))):=by
  rw[hm]
  simp only[aa,and_true]at *;omega
 obtain⟨w,ew,qw⟩:=ab (E.I F (fn 1 (pr bo (fn 6 (pr (fn 8 (pr (.wr .i64 (.ar .shr .u64 (.wr .u64 (.ar .add .i64 aI aP)) (.int 1))) (.int 12))) (.int 0)))))-E.I F bu)
 obtain⟨w1,ew1,qw1⟩:=ab (E.I F (.wr .i64 (.ar .shr .u64 (.wr .u64 (.ar .add .i64 aI aP)) (.int 1)))+1)
 simp only[aa,ae]at *;try simp only[ew,ew1]at *
 omega
def aqW:=fb kN (.not (cmp .lss (fn 9 (pr bo (.int 12))) (.wr .i64 (.ar .shr .u64 (.wr .u64 (.ar .add .i64 aI aP)) (.int 1)))))<|aB fun F p0 p1 p2 p3=>by
 have b0:0<=E.I F aI:=by
  simp only[aa,and_true]at *;omega
 have b1:0<=E.I F aP:=by
  simp only[aa,and_true]at *;omega
 have b2:E.I F aI<=1000:=by
  simp only[aa,and_true]at *;omega
 have b3:E.I F aP<=1000:=by
  simp only[aa,and_true]at *;omega
 have hm:=i9 b0 b1 b2 b3;have m1:E.I F (.wr .i64 (.ar .shr .u64 (.wr .u64 (.ar .add .i64 aI aP)) (.int 1)))<E.I F (fn 9 (pr bo (.int 12))):=by
  rw[hm]
  simp only[aa,and_true]at *;omega
 obtain⟨w,ew,qw⟩:=ab (E.I F (fn 1 (pr bo (fn 6 (pr (fn 8 (pr (.wr .i64 (.ar .shr .u64 (.wr .u64 (.ar .add .i64 aI aP)) (.int 1))) (.int 12))) (.int 0)))))-E.I F bu)
 obtain⟨w1,ew1,qw1⟩:=ab (E.I F (.wr .i64 (.ar .shr .u64 (.wr .u64 (.ar .add .i64 aI aP)) (.int 1)))+1)
 simp only[aa,ae]at *;try simp only[ew,ew1]at *
 omega
def aqX:=fb (A0::TS::TT) (fn 226 (pr bo (pr bu (pr (.ar .add .i64 (.wr .i64 (.ar .shr .u64 (.wr .u64 (.ar .add .i64 aI aP)) (.int 1))) (.int 1)) aP))))<|di fun F p0 p1 p2 p3 p4 p5 p6 p7 p8=>by
 have b0:0<=E.I F aI:=by
  simp only[aa,and_true]at *;omega
 have b1:0<=E.I F aP:=by
  simp only[aa,and_true]at *;omega
 have b2:E.I F aI<=1000:=by
  simp only[aa,and_true]at *;omega
 have b3:E.I F aP<=1000:=by
  simp only[aa,and_true]at *;omega
 have hm:=i9 b0 b1 b2 b3;have m0:0<=E.I F (.wr .i64 (.ar .shr .u64 (.wr .u64 (.ar .add .i64 aI aP)) (.int 1))):=by
  rw[hm]
  simp only[aa,and_true]at *;omega
 have m1:E.I F (.wr .i64 (.ar .shr .u64 (.wr .u64 (.ar .add .i64 aI aP)) (.int 1)))<E.I F (fn 9 (pr bo (.int 12))):=by
  rw[hm]
  simp only[aa,and_true]at *;omega
 have:=Lm p7 m0 m1
 have hv:E.I F (fn 1 (pr bo (fn 6 (pr (fn 8 (pr (.wr .i64 (.ar .shr .u64 (.wr .u64 (.ar .add .i64 aI aP)) (.int 1))) (.int 12))) (.int 0)))))<E.I F bu:=by
  obtain⟨w,ew,qw⟩:=ab (E.I F (fn 1 (pr bo (fn 6 (pr (fn 8 (pr (.wr .i64 (.ar .shr .u64 (.wr .u64 (.ar .add .i64 aI aP)) (.int 1))) (.int 12))) (.int 0)))))-E.I F bu)
  obtain⟨w1,ew1,qw1⟩:=ab (E.I F (.wr .i64 (.ar .shr .u64 (.wr .u64 (.ar .add .i64 aI aP)) (.int 1)))+1)
  simp only[aa,ae]at *;try simp only[ew,ew1]at *
  omega
 have hk:E.I F (.ar .add .i64 (.wr .i64 (.ar .shr .u64 (.wr .u64 (.ar .add .i64 aI aP)) (.int 1))) (.int 1))=E.I F (.wr .i64 (.ar .shr .u64 (.wr .u64 (.ar .add .i64 aI aP)) (.int 1)))+1:=by
  obtain⟨w,ew,qw⟩:=ab (E.I F (fn 1 (pr bo (fn 6 (pr (fn 8 (pr (.wr .i64 (.ar .shr .u64 (.wr .u64 (.ar .add .i64 aI aP)) (.int 1))) (.int 12))) (.int 0)))))-E.I F bu)
  obtain⟨w1,ew1,qw1⟩:=ab (E.I F (.wr .i64 (.ar .shr .u64 (.wr .u64 (.ar .add .i64 aI aP)) (.int 1)))+1)
  simp only[aa,ae]at *;try simp only[ew,ew1]at *
  omega
 exact aK2 p7 p2 m0 m1 hv hk
def aqY:=fb (A0::(.not TS)::TT) (fn 226 (pr bo (pr bu (pr aI (.wr .i64 (.ar .shr .u64 (.wr .u64 (.ar .add .i64 aI aP)) (.int 1)))))))<|di fun F p0 p1 p2 p3 p4 p5 p6 p7 p8=>by
 have b0:0<=E.I F aI:=by
  simp only[aa,and_true]at *;omega
 have b1:0<=E.I F aP:=by
  simp only[aa,and_true]at *;omega
 have b2:E.I F aI<=1000:=by
  simp only[aa,and_true]at *;omega
 have b3:E.I F aP<=1000:=by
  simp only[aa,and_true]at *;omega
 have hm:=i9 b0 b1 b2 b3;have m0:0<=E.I F (.wr .i64 (.ar .shr .u64 (.wr .u64 (.ar .add .i64 aI aP)) (.int 1))):=by
  rw[hm]
  simp only[aa,and_true]at *;omega
 have m1:E.I F (.wr .i64 (.ar .shr .u64 (.wr .u64 (.ar .add .i64 aI aP)) (.int 1)))<E.I F (fn 9 (pr bo (.int 12))):=by
  rw[hm]
  simp only[aa,and_true]at *;omega
 have:=Lm p7 m0 m1
 have hv:¬E.I F (fn 1 (pr bo (fn 6 (pr (fn 8 (pr (.wr .i64 (.ar .shr .u64 (.wr .u64 (.ar .add .i64 aI aP)) (.int 1))) (.int 12))) (.int 0)))))<E.I F bu:=by
  obtain⟨w,ew,qw⟩:=ab (E.I F (fn 1 (pr bo (fn 6 (pr (fn 8 (pr (.wr .i64 (.ar .shr .u64 (.wr .u64 (.ar .add .i64 aI aP)) (.int 1))) (.int 12))) (.int 0)))))-E.I F bu)
  obtain⟨w1,ew1,qw1⟩:=ab (E.I F (.wr .i64 (.ar .shr .u64 (.wr .u64 (.ar .add .i64 aI aP)) (.int 1)))+1)
  simp only[aa,ae]at *;try simp only[ew,ew1]at *
  omega
 exact aK3 p7 p2 m0 m1 hv
def aqZ:=fb kN (cmp .lss (fn 7 (pr aP (.ar .add .i64 (.wr .i64 (.ar .shr .u64 (.wr .u64 (.ar .add .i64 aI aP)) (.int 1))) (.int 1)))) (fn 7 (pr aP aI)))<|aB fun F p0 p1 p2 p3=>by
 have b0:0<=E.I F aI:=by
  simp only[aa,and_true]at *;omega
 have b1:0<=E.I F aP:=by
  simp only[aa,and_true]at *;omega
 have b2:E.I F aI<=1000:=by
  simp only[aa,and_true]at *;omega
 have b3:E.I F aP<=1000:=by
  simp only[aa,and_true]at *;omega
 have hm:=i9 b0 b1 b2 b3;have m0:0<=E.I F (.wr .i64 (.ar .shr .u64 (.wr .u64 (.ar .add .i64 aI aP)) (.int 1))):=by
  rw[hm]
  simp only[aa,and_true]at *;omega
 have m1:E.I F (.wr .i64 (.ar .shr .u64 (.wr .u64 (.ar .add .i64 aI aP)) (.int 1)))<E.I F (fn 9 (pr bo (.int 12))):=by
  rw[hm]
  simp only[aa,and_true]at *;omega
 obtain⟨w,ew,qw⟩:=ab (E.I F (fn 1 (pr bo (fn 6 (pr (fn 8 (pr (.wr .i64 (.ar .shr .u64 (.wr .u64 (.ar .add .i64 aI aP)) (.int 1))) (.int 12))) (.int 0)))))-E.I F bu)
 obtain⟨w1,ew1,qw1⟩:=ab (E.I F (.wr .i64 (.ar .shr .u64 (.wr .u64 (.ar .add .i64 aI aP)) (.int 1)))+1)
 simp only[aa,ae]at *;try simp only[ew,ew1]at *
 omega
def aq0:=fb kN (cmp .lss (fn 7 (pr (.wr .i64 (.ar .shr .u64 (.wr .u64 (.ar .add .i64 aI aP)) (.int 1))) aI)) (fn 7 (pr aP aI)))<|aB fun F p0 p1 p2 p3=>by
 have b0:0<=E.I F aI:=by
  simp only[aa,and_true]at *;omega
 have b1:0<=E.I F aP:=by
  simp only[aa,and_true]at *;omega
 have b2:E.I F aI<=1000:=by
  simp only[aa,and_true]at *;omega
 have b3:E.I F aP<=1000:=by
  simp only[aa,and_true]at *;omega
 have:=i9 b0 b1 b2 b3
 obtain⟨w,ew,qw⟩:=ab (E.I F (fn 1 (pr bo (fn 6 (pr (fn 8 (pr (.wr .i64 (.ar .shr .u64 (.wr .u64 (.ar .add .i64 aI aP)) (.int 1))) (.int 12))) (.int 0)))))-E.I F bu)
 obtain⟨w1,ew1,qw1⟩:=ab (E.I F (.wr .i64 (.ar .shr .u64 (.wr .u64 (.ar .add .i64 aI aP)) (.int 1)))+1)
 simp only[aa,ae]at *;try simp only[ew,ew1]at *
 omega
def aq1:=fb kN (.not (cmp .lss (fn 7 (pr aP (.ar .add .i64 (.wr .i64 (.ar .shr .u64 (.wr .u64 (.ar .add .i64 aI aP)) (.int 1))) (.int 1)))) (.int 0)))<|aB fun F p0 p1 p2 p3=>by
 have b0:0<=E.I F aI:=by
  simp only[aa,and_true]at *;omega
 have b1:0<=E.I F aP:=by
  simp only[aa,and_true]at *;omega
 have b2:E.I F aI<=1000:=by
  simp only[aa,and_true]at *;omega
 have b3:E.I F aP<=1000:=by
  simp only[aa,and_true]at *;omega
 have hm:=i9 b0 b1 b2 b3;have m0:0<=E.I F (.wr .i64 (.ar .shr .u64 (.wr .u64 (.ar .add .i64 aI aP)) (.int 1))):=by
  rw[hm]
  simp only[aa,and_true]at *;omega
 have m1:E.I F (.wr .i64 (.ar .shr .u64 (.wr .u64 (.ar .add .i64 aI aP)) (.int 1)))<E.I F (fn 9 (pr bo (.int 12))):=by
  rw[hm]
  simp only[aa,and_true]at *;omega
 obtain⟨w,ew,qw⟩:=ab (E.I F (fn 1 (pr bo (fn 6 (pr (fn 8 (pr (.wr .i64 (.ar .shr .u64 (.wr .u64 (.ar .add .i64 aI aP)) (.int 1))) (.int 12))) (.int 0)))))-E.I F bu)
 obtain⟨w1,ew1,qw1⟩:=ab (E.I F (.wr .i64 (.ar .shr .u64 (.wr .u64 (.ar .add .i64 aI aP)) (.int 1)))+1)
 simp only[aa,ae]at *;try simp only[ew,ew1]at *
 omega
def aq2:=fb kN (.not (cmp .lss (fn 7 (pr (.wr .i64 (.ar .shr .u64 (.wr .u64 (.ar .add .i64 aI aP)) (.int 1))) aI)) (.int 0)))<|aB fun F p0 p1 p2 p3=>by
 have b0:0<=E.I F aI:=by
  simp only[aa,and_true]at *;omega
 have b1:0<=E.I F aP:=by
  simp only[aa,and_true]at *;omega
 have b2:E.I F aI<=1000:=by
  simp only[aa,and_true]at *;omega
 have b3:E.I F aP<=1000:=by
  simp only[aa,and_true]at *;omega
 have:=i9 b0 b1 b2 b3
 obtain⟨w,ew,qw⟩:=ab (E.I F (fn 1 (pr bo (fn 6 (pr (fn 8 (pr (.wr .i64 (.ar .shr .u64 (.wr .u64 (.ar .add .i64 aI aP)) (.int 1))) (.int 12))) (.int 0)))))-E.I F bu)
 obtain⟨w1,ew1,qw1⟩:=ab (E.I F (.wr .i64 (.ar .shr .u64 (.wr .u64 (.ar .add .i64 aI aP)) (.int 1)))+1)
 simp only[aa,ae]at *;try simp only[ew,ew1]at *
 omega
def p48:List Fa:=[cY,aqL,aqM,aqN,aqO,aqP,aqQ,aqR,aqS,aqT,aqU,aqV,aqW,aqX,aqY,aqZ,aq0,aq1,aq2]
theorem aJn:aR Tryz.prog (bj (aH3)):=sc p48 (aC2) ac9 ([]) (by kernel_rfl) (by kernel_rfl)
def adb:Nl:=nc aJn ac9
def aq3:=fb [sy,(.iff cq sy)] cq<|ap fun F p0 p1=>by
 simp only[aa]at *;grind
def aq4:=fb ((.iff (var 4) (.and TU (cmp .eql (fn 1 (pr (fn 1 (pr bo (.int 0))) (fn 6 (pr (fn 8 (pr gX (.int 12))) (.int 0))))) bu)))::TV::Is::Iu) (var 4)<|aK fun F p0 p1 p2 p3 p4=>by
 have hx:=p3;simp only[aa]at hx;have h0:0<=E.I F gX:=by
  simp only[aa,and_true]at *;omega
 have:=NH p4 p2 h0 hx
 simp only[aa]at *;grind
def aq5:=fb [sy] (fn 228 (fn 1 (pr bo (.int 0))))<|ah fun F p0=>by
 exact F5 p0
def aq6:=fb Iu Io<|ap fun F p0 p1=>by
 have hx:=p0;simp only[aa]at hx
 have:=afF p1 hx
 simp only[aa]at *;omega
def aq7:=fb Iu In<|ap fun F p0 p1=>by
 have hx:=p0;simp only[aa]at hx
 have:=afF p1 hx
 simp only[aa]at *;omega
def aq8:=fb (It::sy::Is::(.not (cmp .lss (fn 9 (pr (fn 1 (pr bo (.int 0))) (.int 12))) gX))::TW) TU<|aK fun F p0 p1 p2 p3 p4=>by
 have hx:=p0;simp only[aa]at hx;have h0:0<=E.I F gX:=by
  simp only[aa,and_true]at *;omega
 have:=NH p1 p2 h0 hx
 simp only[aa]at *;grind
def aq9:=fb (It::sy::Is::TW) (cmp .eql gX (fn 120 (pr bo (pr bu (fn 9 (pr (fn 1 (pr bo (.int 0))) (.int 12)))))))<|aB fun F p0 p1 p2 p3=>by
 have hx:=p0;simp only[aa]at hx;have h0:0<=E.I F gX:=by
  simp only[aa,and_true]at *;omega
 have:=NH p1 p2 h0 hx
 simp only[aa]at *;grind
def p49:List Fa:=[cY,aq3,aq4,Aa,aq5,aq6,aq7,aq8,aq9]
theorem aJo:aR Tryz.prog (bj (aId)):=sc p49 ([]) adb ([]) (by kernel_rfl) (by kernel_rfl)
def adc:Nl:=nc aJo adb
def ara:=fb [Iv,(.not gX),jc] Iw<|am fun F p0 p1 p2=>by
 simp only[aa,bg,bv]at *;grind
def arb:=fa ((fn 224 (pr (fn 10 (.int 0)) (pr bo (pr bu (pr cq (.int 0)))))))<|fun F=>by
 exact aKX (by simp only[aa]at *;omega)
def arc:=fb [mo] (.not (cmp .lss (.int 1000) (fn 0 (fn 1 (pr bu (.int 8))))))<|ah fun F p0=>by
 have:=ak p0
 try simp only[aa,ae]at *
 have:=@cP F (fn 1 (pr bu (.int 8)))
 omega
def ard:=fb [mo] (.not (cmp .lss (.int 1000) (fn 0 (fn 1 (pr bu (.int 22))))))<|ah fun F p0=>by
 have:=ak p0
 try simp only[aa,ae]at *
 have:=@cP F (fn 1 (pr bu (.int 22)))
 omega
def arf:=fb (mo::Ix::Iy::Ub) (.not (cmp .lss (.int 30) kP))<|aK fun F p0 p1 p2 p3 p4=>by
 have:=ak p0
 try simp only[aa,ae]at *
 omega
def arg:=fb Ud Iw<|am fun F p0 p1 p2=>by
 exact FX p1 (by simp only[aa]at *;omega)
def arh:=fb IC (.not (cmp .lss (.ar .add .i64 aX (.int 1)) (.int 0)))<|am fun F p0 p1 p2=>by
 have:=ak p0
 try simp only[aa,ae]at *
 obtain⟨a8,ea8,qa8⟩:=ab ((E.I F aX)+(1))
 try simp only[ea8]at *
 omega
def ari:=fb [mo,f9,pQ,TZ,Iz,(.not (cmp .lss (var 18) kP)),(.not (cmp .lss kP (.int 1)))] (.not (cmp .lss (var 18) (.int 0)))<|cV fun F p0 p1 p2 p3 p4 p5 p6=>by
 have:=ak p0
 try simp only[aa,ae]at *
 omega
def arj:=fb Uf Ug<|am fun F p0 p1 p2=>by
 exact FX p2 (by simp only[aa]at *;omega)
def ark:=fb IB (.not (cmp .lss (fn 9 (pr (fn 1 (pr bu (.int 0))) (.int 12))) (.ar .add .i64 aX (.int 1))))<|ap fun F p0 p1=>by
 try simp only[aa,ae]at *
 obtain⟨a8,ea8,qa8⟩:=ab ((E.I F aX)+(1))
 try simp only[ea8]at *
 omega
def arl:=fb Il (.not (cmp .lss (.int 2147483648) (fn 6 (pr kP (.int 1)))))<|aK fun F p0 p1 p2 p3 p4=>by
 have:=ak p0
 try simp only[aa,ae]at *
 omega
def arm:=fb (f9::(.not ss)::AP) AR<|aK fun F p0 p1 p2 p3 p4=>by
 have:=(ak p3).2.2.1.2.2.1
 have h0:0<=E.I F aX:=by
  simp only[aa]at *;omega
 have hn:E.I F (.ar .add .i64 aX (.int 1))=E.I F aX+1:=by
  simp only[aa,ae]at *
  obtain⟨w,ew,qw⟩:=ab (E.I F aX+1)
  simp only[ew];omega
 refine FZ p4 h0 hn ?_;simp only[aa,bg,bv]at *;grind
def arn:=fb (f9::su::(.not pP)::AP) AR<|bL fun F p0 p1 p2 p3 p4 p5=>by
 have:=(ak p4).2.2.1.2.2.1
 have h0:0<=E.I F aX:=by
  simp only[aa]at *;omega
 have hn:E.I F (.ar .add .i64 aX (.int 1))=E.I F aX+1:=by
  simp only[aa,ae]at *
  obtain⟨w,ew,qw⟩:=ab (E.I F aX+1)
  simp only[ew];omega
 refine FZ p5 h0 hn ?_;simp only[aa,bg,bv]at *;grind
def aro:=fb (f9::AT::TC::AU::wa::TF) AR<|eR fun F p0 p1 p2 p3 p4 p5 p6 p7 p8 p9=>by
 have:=(ak p8).2.2.1.2.2.1
 have h0:0<=E.I F aX:=by
  simp only[aa]at *;omega
 have hn:E.I F (.ar .add .i64 aX (.int 1))=E.I F aX+1:=by
  simp only[aa,ae]at *
  obtain⟨w,ew,qw⟩:=ab (E.I F aX+1)
  simp only[ew];omega
 have hL:=@Df F cq bu (by simp only[aa]at *;omega);refine FY p9 hL h0 hn ?_;simp only[aa,bg,bv]at *;grind
def arp:=fb (f9::v8::AW::wa::AP) AR<|cV fun F p0 p1 p2 p3 p4 p5 p6=>by
 have:=(ak p5).2.2.1.2.2.1
 have h0:0<=E.I F aX:=by
  simp only[aa]at *;omega
 have hn:E.I F (.ar .add .i64 aX (.int 1))=E.I F aX+1:=by
  simp only[aa,ae]at *
  obtain⟨w,ew,qw⟩:=ab (E.I F aX+1)
  simp only[ew];omega
 have hL:=@De F cq bu (by simp only[aa]at *;omega);refine FY p6 hL h0 hn ?_;simp only[aa,bg,bv]at *;grind
def arq:=fb (f9::(.not ss)::AX) AY<|aK fun F p0 p1 p2 p3 p4=>by
 have:=(ak p4).2.2.1.2.2.1
 have h0:0<=E.I F aX:=by
  simp only[aa]at *;omega
 have hn:E.I F (.ar .add .i64 aX (.int 1))=E.I F aX+1:=by
  simp only[aa,ae]at *
  obtain⟨w,ew,qw⟩:=ab (E.I F aX+1)
  simp only[ew];omega
 refine FZ p2 h0 hn ?_;simp only[aa,bg,bv]at *;grind
def ars:=fb (f9::su::(.not pP)::AX) AY<|bL fun F p0 p1 p2 p3 p4 p5=>by
 have:=(ak p5).2.2.1.2.2.1
 have h0:0<=E.I F aX:=by
  simp only[aa]at *;omega
 have hn:E.I F (.ar .add .i64 aX (.int 1))=E.I F aX+1:=by
  simp only[aa,ae]at *
  obtain⟨w,ew,qw⟩:=ab (E.I F aX+1)
  simp only[ew];omega
 refine FZ p3 h0 hn ?_;simp only[aa,bg,bv]at *;grind
def art:=fb (f9::ss::su::pP::AT::AU::sx::TG) TH<|jq fun F p0 p1 p2 p3 p4 p5 p6 p7 p8 p9 ai ao=>by
 have:=(ak ao).2.2.1.2.2.1
 have h0:0<=E.I F aX:=by
  simp only[aa]at *;omega
 have hn:E.I F (.ar .add .i64 aX (.int 1))=E.I F aX+1:=by
  simp only[aa,ae]at *
  obtain⟨w,ew,qw⟩:=ab (E.I F aX+1)
  simp only[ew];omega
 have hL:=@Df F cq bu (by simp only[aa]at *;omega);refine afV p7 hL h0 hn ?_ ?_ ?_
 ·simp only[aa]at *;omega
 ·simp only[aa,bg,bv]at *;grind
 ·simp only[aa,bg,bv]at *;grind
def aru:=fb (f9::AT::TC::AU::wa::TG) AY<|eR fun F p0 p1 p2 p3 p4 p5 p6 p7 p8 p9=>by
 have:=(ak p9).2.2.1.2.2.1
 have h0:0<=E.I F aX:=by
  simp only[aa]at *;omega
 have hn:E.I F (.ar .add .i64 aX (.int 1))=E.I F aX+1:=by
  simp only[aa,ae]at *
  obtain⟨w,ew,qw⟩:=ab (E.I F aX+1)
  simp only[ew];omega
 have hL:=@Df F cq bu (by simp only[aa]at *;omega);refine FY p5 hL h0 hn ?_;simp only[aa,bg,bv]at *;grind
def arv:=fb (f9::ss::su::pP::v8::AW::sx::AX) TH<|eR fun F p0 p1 p2 p3 p4 p5 p6 p7 p8 p9=>by
 have:=(ak p9).2.2.1.2.2.1
 have h0:0<=E.I F aX:=by
  simp only[aa]at *;omega
 have hn:E.I F (.ar .add .i64 aX (.int 1))=E.I F aX+1:=by
  simp only[aa,ae]at *
  obtain⟨w,ew,qw⟩:=ab (E.I F aX+1)
  simp only[ew];omega
 have hL:=@De F cq bu (by simp only[aa]at *;omega);refine afV p7 hL h0 hn ?_ ?_ ?_
 ·simp only[aa]at *;omega
 ·simp only[aa,bg,bv]at *;grind
 ·simp only[aa,bg,bv]at *;grind
def arw:=fb (f9::v8::AW::wa::AX) AY<|cV fun F p0 p1 p2 p3 p4 p5 p6=>by
 have:=(ak p6).2.2.1.2.2.1
 have h0:0<=E.I F aX:=by
  simp only[aa]at *;omega
 have hn:E.I F (.ar .add .i64 aX (.int 1))=E.I F aX+1:=by
  simp only[aa,ae]at *
  obtain⟨w,ew,qw⟩:=ab (E.I F aX+1)
  simp only[ew];omega
 have hL:=@De F cq bu (by simp only[aa]at *;omega);refine FY p4 hL h0 hn ?_;simp only[aa,bg,bv]at *;grind
def arx:=fb Il (.not (cmp .lss (.ar .add .i64 aX (.int 1)) kP))<|aK fun F p0 p1 p2 p3 p4=>by
 have:=ak p0
 try simp only[aa,ae]at *
 obtain⟨a8,ea8,qa8⟩:=ab ((E.I F aX)+(1))
 try simp only[ea8]at *
 omega
def ary:=fb IC (cmp .lss (fn 7 (pr (fn 9 (pr (fn 1 (pr bu (.int 0))) (.int 12))) (.ar .add .i64 aX (.int 1)))) (fn 7 (pr (fn 9 (pr (fn 1 (pr bu (.int 0))) (.int 12))) aX)))<|am fun F p0 p1 p2=>by
 have:=ak p0
 try simp only[aa,ae]at *
 obtain⟨a5,ea5,qa5⟩:=ab ((E.I F aX)+(1))
 try simp only[ea5]at *
 omega
def arz:=fb IC (.not (cmp .lss (.ar .add .i64 aX (.int 1)) (.int 1)))<|am fun F p0 p1 p2=>by
 have:=ak p0
 try simp only[aa,ae]at *
 obtain⟨a7,ea7,qa7⟩:=ab ((E.I F aX)+(1))
 try simp only[ea7]at *
 omega
def arA:=fb (f9::ss::su::pP::AT::AU::sx::TF) TI<|jq fun F p0 p1 p2 p3 p4 p5 p6 p7 p8 p9 ai ao=>by
 have:=(ak ai).2.2.1.2.2.1
 have h0:0<=E.I F aX:=by
  simp only[aa]at *;omega
 have hn:E.I F (.ar .add .i64 aX (.int 1))=E.I F aX+1:=by
  simp only[aa,ae]at *
  obtain⟨w,ew,qw⟩:=ab (E.I F aX+1)
  simp only[ew];omega
 have hL:=@Df F cq bu (by simp only[aa]at *;omega);refine NG ao hL h0 hn ?_ ?_ ?_
 ·simp only[aa]at *;omega
 ·simp only[aa,bg,bv]at *;grind
 ·simp only[aa,bg,bv]at *;grind
def arB:=fb (f9::ss::su::pP::v8::AW::sx::AP) TI<|eR fun F p0 p1 p2 p3 p4 p5 p6 p7 p8 p9=>by
 have:=(ak p8).2.2.1.2.2.1
 have h0:0<=E.I F aX:=by
  simp only[aa]at *;omega
 have hn:E.I F (.ar .add .i64 aX (.int 1))=E.I F aX+1:=by
  simp only[aa,ae]at *
  obtain⟨w,ew,qw⟩:=ab (E.I F aX+1)
  simp only[ew];omega
 have hL:=@De F cq bu (by simp only[aa]at *;omega);refine NG p9 hL h0 hn ?_ ?_ ?_
 ·simp only[aa]at *;omega
 ·simp only[aa,bg,bv]at *;grind
 ·simp only[aa,bg,bv]at *;grind
def arC:=fb IB (.not (cmp .lss (fn 7 (pr (fn 9 (pr (fn 1 (pr bu (.int 0))) (.int 12))) (.ar .add .i64 aX (.int 1)))) (.int 0)))<|ap fun F p0 p1=>by
 try simp only[aa,ae]at *
 obtain⟨a5,ea5,qa5⟩:=ab ((E.I F aX)+(1))
 try simp only[ea5]at *
 omega
def Hg:=fb [Iz] (cmp .eql (fn 6 (pr (fn 0 sA) (.int 1))) (fn 6 (pr kP (.int 1))))<|ah fun F p0=>by
 try simp only[aa,ae]at *
 omega
def arD:=fb Il (.not (cmp .lss (.ar .add .i64 aX (.int 1)) (fn 6 (pr kP (.int 1)))))<|aK fun F p0 p1 p2 p3 p4=>by
 have:=ak p0
 try simp only[aa,ae]at *
 obtain⟨a10,ea10,qa10⟩:=ab ((E.I F aX)+(1))
 try simp only[ea10]at *
 omega
def arE:=fb [(.imp jc AV),(.imp jc sB),AN] AZ<|am fun F p0 p1 p2=>by
 rw[aG]
 intro hv;exfalso;have u0:=p0
 rw[aG]at u0
 have:=u0 hv
 clear p0;have u1:=p1
 rw[aG]at u1
 have:=u1 hv
 clear p1;clear hv;simp only[aa]at *;omega
def arF:=fb [Iv,(.not gX)] AZ<|ap fun F p0 p1=>by
 simp only[bg,bv,aG]at *;grind
def Qp:=fb [Iv,gX] jc<|ap fun F p0 p1=>by
 have hv:=p0
 rw[bg]at hv
 have hv:=hv.1 p1;exact hv
def arG:=fb [(.imp jc AV),(.imp jc sB),TD] AZ<|am fun F p0 p1 p2=>by
 rw[aG]
 intro hv;exfalso;have u0:=p0
 rw[aG]at u0
 have:=u0 hv
 clear p0;have u1:=p1
 rw[aG]at u1
 have:=u1 hv
 clear p1;clear hv;simp only[aa]at *;omega
def arH:=fb [(fn 116 bu)] (.imp (.not jc) (.bool true))<|ah fun F p0=>by
 rw[aG]
 intro _;rfl
def arJ:=fb Uf (.imp jc Ug)<|am fun F p0 p1 p2=>by
 rw[aG]
 intro hv;exact FX p2 (by simp only[aa]at *;omega)
def arL:=fb Ud AZ<|am fun F p0 p1 p2=>by
 rw[aG]
 intro hv;exact FX p1 (by simp only[aa]at *;omega)
def arM:=fb [jc] (.imp (.not jc) (cmp .eql kP (.int 0)))<|ah fun F p0=>by
 rw[aG]
 intro h;simp only[bv]at h;exact absurd p0 h
def p50:List Fa:=[cY,ara,arb,arc,ard,arf,arg,arh,ari,arj,ark,arl,arm,arn,aro,arp,arq,ars,art,aru,arv,arw,arx,ary,arz,arA,arB,arC,Hg,arD,arE,arF,Qp,arG,arH,arJ,arL,arM]
theorem aJq:aR Tryz.prog (bj (aH5)):=sc p50 (aC3) adc (aGz) (by kernel_rfl) (by kernel_rfl)
def ade:Nl:=nc aJq adc
end
end Go.Proofs.YtnggbcblogpnfaaGreat.combatAttacks
