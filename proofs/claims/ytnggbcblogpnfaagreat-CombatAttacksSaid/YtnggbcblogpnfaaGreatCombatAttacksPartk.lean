/-
  CombatAttacks: contracts of functions, part 11.
-/
import Derived.Test.YtnggbcblogpnfaaGreatCombatAttacksPartj
namespace Go.Proofs.YtnggbcblogpnfaaGreat.combatAttacks
open Go.ChangeShapes Go.WideShapes Go.ChangeAt Go.RowKit
open Go.SX
open Go.SX.E (fn pr cmp var)
set_option linter.unusedVariables false
set_option linter.unusedSimpArgs false
set_option maxRecDepth 100000
noncomputable section
abbrev T0:E:=var 0
abbrev T1:E:=cmp .eql (fn 0 T0) (.int 0)
abbrev T2:E:=.imp (fn 31 T0) T1
abbrev T3:=[T2,(fn 31 T0)]
abbrev T4:E:=pr (var 1) T0
abbrev T5:E:=fn 200 T4
abbrev T6:E:=var 8
abbrev T7:E:=fn 187 (pr T6 T0)
abbrev T8:E:=pr T0 (fn 9 (pr T0 (.int 5)))
abbrev T9:E:=fn 158 T8
abbrev df:E:=var 11
abbrev kQ:E:=var 9
abbrev sC:E:=cmp .lss df kQ
abbrev A4:E:=cmp .eql kQ (fn 9 (pr T0 (.int 5)))
abbrev T14:E:=cmp .lss df (.int 0)
abbrev Ui:E:=.not T14
abbrev T16:=[Ui]
abbrev Uj:=A4::T16
abbrev A5:E:=var 12
abbrev T19:E:=cmp .lss A5 df
abbrev Uk:E:=.not T19
abbrev T21:E:=cmp .lss df A5
abbrev Ul:E:=.not T21
abbrev T23:E:=cmp .lss kQ df
abbrev Um:E:=.not T23
abbrev T25:E:=cmp .lss (.int 20) (fn 9 (pr T0 (.int 5)))
abbrev T26:E:=.not T25
abbrev T27:=[T26]
abbrev Un:=Ui::T27
abbrev T29:=A4::Un
abbrev A6:=sC::T29
abbrev T31:=Um::Un
abbrev Uo:=A4::T31
abbrev Up:=sC::Uo
abbrev Uq:E:=fn 190 T6
abbrev pR:E:=var 14
abbrev ID:E:=var 13
abbrev T37:E:=pr ID (fn 1 (pr T6 (fn 6 (pr (fn 8 (pr df (.int 5))) (.int 4)))))
abbrev Ur:E:=fn 200 T37
abbrev T39:=T7::Uj
abbrev T40:=Uq::T39
abbrev T41:=Ur::T40
abbrev Us:=sC::T41
abbrev jL:List E:=[(fn 117 T0)]
def vC:=fb T3 (fn 200 (pr (fn 10 (.int 0)) T0))<|ap fun F p0 p1=>by
 have:=@aKS F (.int 0) T0
 simp only[aa]at *;grind
def vD:=fa ((fn 200 (pr T0 T0)))<|fun F=>by
 exact NF
def rk:List Fa:=[cY,vC,vD]
theorem aJb:aR Tryz.prog (bj (zq 119 dT 5 80)):=sc rk ([]) acX ([.up dT 80]) (by kernel_rfl) (by kernel_rfl)
def acY:Nl:=nc aJb acX
def rl:List Fa:=[cY,vC,vD]
theorem aJc:aR Tryz.prog (bj (aH9)):=sc rl ([]) acY ([.up kT 132]) (by kernel_rfl) (by kernel_rfl)
def ac0:Nl:=nc aJc acY
def aqj:=fb [T5] (fn 187 T4)<|ah fun F p0=>by
 exact aKT p0
def aqk:=fb [T5,(fn 190 T0)] (fn 190 (var 1))<|ap fun F p0 p1=>by
 grind[aKU]
def aql:=fb (T7::T9::sC::Uj) (.not (cmp .lss (.int 100) (fn 9 (pr (fn 1 (pr T6 (fn 6 (pr (fn 8 (pr df (.int 5))) (.int 4))))) (.int 2)))))<|aK fun F p0 p1 p2 p3 p4=>by
 have:=@aKG _ _ _ df _ p1 p0
 simp only[aa]at *;grind
def aqm:=fb [(.not sC),Uk,Ul,Um] (cmp .eql A5 kQ)<|aB fun F p0 p1 p2 p3=>by
 simp only[aa]at *;grind
def aqn:=fb A6 (.not (cmp .lss (.ar .add .i64 df (.int 1)) (.int 0)))<|aB fun F p0 p1 p2 p3=>by
 simp only[aa,ae]at *
 obtain⟨a,b,c⟩:=ab (E.I F df+1)
 omega
def aqo:=fb [A4] (.not (cmp .lss kQ (.int 0)))<|ah fun F p0=>by
 have:=ug F (pr T0 (.int 5))
 simp only[aa]at *;grind
def aqp:=fb Up (.not (cmp .lss kQ (.ar .add .i64 df (.int 1))))<|aK fun F p0 p1 p2 p3 p4=>by
 simp only[aa,ae]at *
 obtain⟨a,b,c⟩:=ab (E.I F df+1)
 omega
def aqq:=fb (Uq::T7::(fn 190 T0)::T9::sC::(cmp .eql pR (fn 9 (pr (fn 1 (pr T6 (fn 6 (pr (fn 8 (pr df (.int 5))) (.int 4))))) (.int 2))))::(.not (cmp .lss (var 15) pR))::(.not (cmp .lss pR (.int 0)))::Ur::Uk::Ul::(cmp .eql A5 df)::(.not (cmp .lss (var 10) kQ))::Uo) (cmp .eql (fn 6 (pr df (.int 1))) (.ar .add .i64 df (.int 1)))<|tC fun F p0 p1 p2 p3 p4 p5 p6 p7 p8 p9 ai ao aq ax aA aC aL=>by
 simp only[aa,ae]at *
 obtain⟨a,b,c⟩:=ab (E.I F df+1)
 omega
def aqr:=fb A6 (.not (cmp .lss (.ar .add .i64 df (.int 1)) (fn 6 (pr df (.int 1)))))<|aB fun F p0 p1 p2 p3=>by
 simp only[aa,ae]at *
 obtain⟨a,b,c⟩:=ab (E.I F df+1)
 omega
def aqs:=fb A6 (.not (cmp .lss (fn 6 (pr df (.int 1))) (.ar .add .i64 df (.int 1))))<|aB fun F p0 p1 p2 p3=>by
 simp only[aa,ae]at *
 obtain⟨a,b,c⟩:=ab (E.I F df+1)
 omega
def aqt:=fb Us (fn 187 (pr (fn 2 (pr T6 (pr (fn 6 (pr (fn 8 (pr df (.int 5))) (.int 4))) (fn 28 (pr (pr (var 16) pR) ID))))) T0))<|bL fun F p0 p1 p2 p3 p4 p5=>by
 have:=fun h0 h1=>(@afR _ _ _ _ _ p3 p2 h0 h1 (show E.B F (fn _ (pr (fn 28 (pr (pr (var 16) pR) _)) _))=true from p1) rfl).1
 simp only[aa]at *;grind
def aqu:=fb Us (fn 190 (fn 2 (pr T6 (pr (fn 6 (pr (fn 8 (pr df (.int 5))) (.int 4))) (fn 28 (pr (pr (var 16) pR) ID))))))<|bL fun F p0 p1 p2 p3 p4 p5=>by
 have:=fun h0 h1=>(@afR _ _ _ _ _ p3 p2 h0 h1 (show E.B F (fn _ (pr (fn 28 (pr (pr (var 16) pR) _)) _))=true from p1) rfl).2
 simp only[aa]at *;grind
def aqv:=fb A6 (cmp .lss (fn 7 (pr kQ (.ar .add .i64 df (.int 1)))) (fn 7 (pr kQ df)))<|aB fun F p0 p1 p2 p3=>by
 simp only[aa,ae]at *
 obtain⟨a,b,c⟩:=ab (E.I F df+1)
 omega
def aqw:=fb Up (.not (cmp .lss (fn 7 (pr kQ (.ar .add .i64 df (.int 1)))) (.int 0)))<|aK fun F p0 p1 p2 p3 p4=>by
 simp only[aa,ae]at *
 obtain⟨a,b,c⟩:=ab (E.I F df+1)
 omega
def rm:List Fa:=[cY,aqj,aqk,aql,aqm,aqn,aqo,aqp,aqq,aqr,aqs,aqt,aqu,aqv,aqw]
theorem aJd:aR Tryz.prog (bj (aIE)):=sc rm (aDt) ac0 ([.up dT 80]) (by kernel_rfl) (by kernel_rfl)
def ac1:Nl:=nc aJd ac0
def rn:List Fa:=[cY,vC,vD]
theorem aJf:aR Tryz.prog (bj (zq 92 kO 12 60)):=sc rn ([]) ac1 ([.up kO 60]) (by kernel_rfl) (by kernel_rfl)
def ac2:Nl:=nc aJf ac1
def aqx:=fb [(.not (cmp .lss (.int 100) (fn 9 (pr T0 (.int 1)))))] (.not (cmp .lss (.int 2147483648) (fn 0 T0)))<|ah fun F p0=>by
 have:=@jB F T0
 simp only[aa]at *;grind
def aqy:=fb T3 (cmp .eql (fn 9 (pr T0 (.int 1))) (.int 0))<|ap fun F p0 p1=>by
 simp_all[jB]
def aqz:=fa ((cmp .eql (fn 0 T0) (fn 9 (pr T0 (.int 1)))))<|fun F=>by
 have:=@jB F T0
 simp only[aa]at *;grind
def ro:List Fa:=[cY,vC,aqx,aqy,vD,aqz]
theorem aJg:aR Tryz.prog (bj (zq 93 kI 1 3)):=sc ro ([]) ac2 ([.up kI 3]) (by kernel_rfl) (by kernel_rfl)
def ac3:Nl:=nc aJg ac2
def rp:List Fa:=[cY,vC,vD]
theorem aJh:aR Tryz.prog (bj (zq 94 kT 2 47)):=sc rp ([]) ac3 ([.up kT 47]) (by kernel_rfl) (by kernel_rfl)
def ac4:Nl:=nc aJh ac3
def aqA:=fb jL (.not (cmp .lss (.int 100) (fn 9 (pr (fn 1 (pr T0 (.int 0))) (.int 12)))))<|ah fun F p0=>by
 have:=ak p0
 simp only[aa]at *;omega
def aqB:=fb jL (.not (cmp .lss (.int 100) (fn 9 (pr (fn 1 (pr T0 (.int 31))) (.int 1)))))<|ah fun F p0=>by
 have:=@jB F (fn 1 (pr T0 (.int 31)))
 have:=@gv F T0
 simp only[aa]at *;grind
def aqC:=fb jL (.not (cmp .lss (.int 100) (fn 9 (pr (fn 1 (pr T0 (.int 32))) (.int 2)))))<|ah fun F p0=>by
 have:=ak p0
 simp only[aa]at *;omega
def aqD:=fb jL (.not (cmp .lss (.int 100) (fn 9 (pr (fn 1 (pr T0 (.int 6))) (.int 1)))))<|ah fun F p0=>by
 have:=@jB F (fn 1 (pr T0 (.int 6)))
 have:=@gv F T0
 have:=@kA F T0
 simp only[aa]at *;grind
def aqE:=fb jL (.not (cmp .lss (.int 100) (fn 9 (pr (fn 1 (pr T0 (.int 7))) (.int 1)))))<|ah fun F p0=>by
 have:=@jB F (fn 1 (pr T0 (.int 7)))
 have:=@gv F T0
 have:=@kA F T0
 simp only[aa]at *;grind
def aqF:=fb jL (.not (cmp .lss (.int 100) (fn 9 (pr (fn 1 (pr T0 (.int 8))) (.int 1)))))<|ah fun F p0=>by
 have:=@jB F (fn 1 (pr T0 (.int 8)))
 have:=@gv F T0
 have:=@kA F T0
 simp only[aa]at *;grind
def aqG:=fb jL (.not (cmp .lss (.int 100) (fn 9 (pr (fn 1 (pr T0 (.int 9))) (.int 1)))))<|ah fun F p0=>by
 have:=@jB F (fn 1 (pr T0 (.int 9)))
 have:=@gv F T0
 have:=@kA F T0
 simp only[aa]at *;grind
def aqH:=fb jL (.not (cmp .lss (.int 100) (fn 9 (pr (fn 1 (pr T0 (.int 20))) (.int 1)))))<|ah fun F p0=>by
 have:=@jB F (fn 1 (pr T0 (.int 20)))
 have:=@gv F T0
 have:=@kA F T0
 simp only[aa]at *;grind
def aqI:=fb jL (.not (cmp .lss (.int 100) (fn 9 (pr (fn 1 (pr T0 (.int 21))) (.int 1)))))<|ah fun F p0=>by
 have:=@jB F (fn 1 (pr T0 (.int 21)))
 have:=@gv F T0
 have:=@kA F T0
 simp only[aa]at *;grind
def aqJ:=fb jL (.not (cmp .lss (.int 100) (fn 9 (pr (fn 1 (pr T0 (.int 22))) (.int 1)))))<|ah fun F p0=>by
 have:=@jB F (fn 1 (pr T0 (.int 22)))
 have:=@gv F T0
 have:=@kA F T0
 simp only[aa]at *;grind
def aqK:=fb jL (.not (cmp .lss (.int 100) (fn 9 (pr (fn 1 (pr T0 (.int 23))) (.int 1)))))<|ah fun F p0=>by
 have:=@jB F (fn 1 (pr T0 (.int 23)))
 have:=@gv F T0
 have:=@kA F T0
 simp only[aa]at *;grind
def rq:List Fa:=[cY,aqA,aqB,aqC,lU,vA,Ab,rU,vB,Ac,aqD,aqE,aqF,aqG,aqH,aqI,aqJ,aqK]
theorem aJi:aR Tryz.prog (bj (aH4)):=sc rq ([]) ac4 ([]) (by kernel_rfl) (by kernel_rfl)
def ac5:Nl:=nc aJi ac4
end
end Go.Proofs.YtnggbcblogpnfaaGreat.combatAttacks
