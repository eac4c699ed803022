/-
  CombatDamages: one reckoning by the kernel, E3 contracts of functions and facts.
-/
import Derived.Test.YtnggbcblogpnfaaGreatRows
import Derived.Test.YtnggbcblogpnfaaGreatNat
import Derived.WalkKit
import Derived.ProofKit
import Derived.OpenShut
import Derived.ChangeOld
import Derived.Below
import Derived.KernelRfl
import Derived.Lib.SmallJoins
import Derived.Laws.IdiomArrays
import Derived.Test.YtnggbcblogpnfaaGreatCombatDamagesPartn
namespace Go.Proofs.YtnggbcblogpnfaaGreat.combatDamages
open Go.ChangeShapes Go.WideShapes Go.ChangeAt Go.RowKit
open Go.SX
open Go.SX.E (fn pr cmp var)
set_option linter.unusedVariables false
set_option linter.unusedSimpArgs false
set_option maxRecDepth 100000
noncomputable section
abbrev pm:E:=var 31
abbrev pn:E:=var 28
abbrev nR:E:=var 47
abbrev ry:E:=var 2
abbrev bS:E:=var 1
abbrev mu:E:=var 0
abbrev rA:E:=var 48
abbrev ip:E:=var 5
abbrev nS:E:=var 4
abbrev xH:E:=var 49
abbrev mq:E:=var 8
abbrev lA:E:=var 7
abbrev xl:E:=var 50
abbrev mr:E:=var 11
abbrev ko:E:=var 10
abbrev xm:E:=var 51
abbrev mt:E:=var 14
abbrev kp:E:=var 13
abbrev xn:E:=var 52
abbrev xp:E:=var 17
abbrev kq:E:=var 16
abbrev xq:E:=var 53
abbrev xr:E:=var 20
abbrev rr:E:=var 19
abbrev xu:E:=var 54
abbrev xv:E:=var 23
abbrev ru:E:=var 22
abbrev xw:E:=var 55
abbrev xx:E:=var 26
abbrev rx:E:=var 25
abbrev xy:E:=var 56
abbrev xz:E:=var 29
abbrev xA:E:=var 57
abbrev xB:E:=var 32
abbrev xC:E:=var 58
abbrev xD:E:=var 35
abbrev po:E:=var 34
abbrev xE:E:=var 59
abbrev xF:E:=var 38
abbrev pp:E:=var 37
abbrev B3:E:=var 43
abbrev azy:E:=pr po (pr pp (.int 0))
abbrev azz:E:=pr pm azy
abbrev azA:E:=pr pn azz
abbrev azB:E:=pr rx azA
abbrev azC:E:=pr ru azB
abbrev azD:E:=pr rr azC
abbrev azE:E:=pr kq azD
abbrev azF:E:=pr kp azE
abbrev azG:E:=pr ko azF
abbrev azH:E:=pr lA azG
abbrev azI:E:=pr nS azH
abbrev azJ:E:=pr bS azI
abbrev azK:E:=pr mu azJ
abbrev azL:E:=pr B3 azK
abbrev azM:E:=fn 221 azL
abbrev azN:=[azM]
abbrev WN:List E:=(fn 116 B3)::azN
abbrev rz:E:=var 6
abbrev cM:E:=.bool false
abbrev rC:E:=var 9
abbrev rD:E:=var 12
abbrev rE:E:=var 15
abbrev tX:E:=fn 115 bS
abbrev xG:E:=fn 130 bS
abbrev azO:E:=cmp .lss (.int 12) (fn 9 (pr mu (.int 14)))
abbrev WO:E:=.not azO
abbrev azP:E:=pr mu (fn 9 (pr mu (.int 14)))
abbrev WP:E:=fn 155 azP
abbrev azQ:E:=.and WO WP
abbrev azR:E:=.imp ry azQ
abbrev WQ:=[azR,ry]
abbrev jb:E:=var 3
abbrev jy:E:=.imp jb (fn 117 bS)
abbrev WR:E:=cmp .eql po (fn 9 (pr (fn 1 (pr bS (.int 29))) (.int 5)))
abbrev WS:E:=cmp .eql pp (fn 9 (pr (fn 1 (pr bS (.int 30))) (.int 5)))
abbrev azS:E:=pr (var 33) (fn 1 (pr bS (.int 29)))
abbrev WT:E:=fn 187 azS
abbrev azT:E:=pr (var 36) (fn 1 (pr bS (.int 30)))
abbrev WU:E:=fn 187 azT
def atw:=fb [(fn 190 pm),(fn 190 pn)] (fn 116 (vU [(pr nR ry),(pr rA ip),(pr xH mq),(pr xl mr),(pr xm mt),(pr xn xp),(pr xq xr),(pr xu xv),(pr xw xx),(pr xy xz),(pr xA xB),(pr xC xD),(pr xE xF)] [bS,nS,lA,ko,kp,kq,rr,ru,rx,pn,pm,po,pp] mu))<|au fun ρ p0 p1=>by
 exact aIs (zs:=[(pr _ _),(pr _ _),(pr _ _),(pr _ _),(pr _ _),(pr _ _),(pr _ _),(pr _ _),(pr _ _),(pr _ _),(pr _ _),(pr _ _),(pr _ _)]) p1 p0
def atx:=fb ((fn 117 B3)::WN) (fn 117 (vU [(pr nR ry),(pr rA ip),(pr xH mq),(pr xl mr),(pr xm mt),(pr xn xp),(pr xq xr),(pr xu xv),(pr xw xx),(pr xy xz),(pr xA xB),(pr xC xD),(pr xE xF)] [bS,nS,lA,ko,kp,kq,rr,ru,rx,pn,pm,po,pp] mu))<|ay fun ρ p0 p1 p2=>by
 have h1:=afv [(pr nR ry),(pr rA ip),(pr xH mq),(pr xl mr),(pr xm mt),(pr xn xp),(pr xq xr),(pr xu xv),(pr xw xx),(pr xy xz),(pr xA xB),(pr xC xD),(pr xE xF)] p2 p1;exact aIt h1 p0
def aty:=fb WN (fn 189 (pr B3 (vU [(pr nR ry),(pr rA ip),(pr xH mq),(pr xl mr),(pr xm mt),(pr xn xp),(pr xq xr),(pr xu xv),(pr xw xx),(pr xy xz),(pr xA xB),(pr xC xD),(pr xE xF)] [bS,nS,lA,ko,kp,kq,rr,ru,rx,pn,pm,po,pp] mu)))<|au fun ρ p0 p1=>by
 have h1:=afv [(pr nR ry),(pr rA ip),(pr xH mq),(pr xl mr),(pr xm mt),(pr xn xp),(pr xq xr),(pr xu xv),(pr xw xx),(pr xy xz),(pr xA xB),(pr xC xD),(pr xE xF)] p1 p0;exact h1
def p61:List Fa:=[ey,atw,atx,aty]
theorem aHP:aV Tryz.prog (bz (aGw)):=sc p61 ([]) Ml ([]) (by kernel_rfl) (by kernel_rfl)
def aEW:Nl:=nc aHP Ml
def atz:=fa ((fn 116 (cU [(fn 28 (pr (pr nS (.int 0)) (fn 10 (.int 0)))),(.int 0),(.int 0),(.int 0),(.int 0),(.int 0),(fn 28 (pr (pr ip (.int 0)) (fn 10 (.int 0)))),(fn 28 (pr (pr rz (.int 0)) (fn 10 (.int 0)))),(fn 28 (pr (pr lA (.int 0)) (fn 10 (.int 0)))),(fn 28 (pr (pr mq (.int 0)) (fn 10 (.int 0)))),cM,cM,cM,(.int 0),(.int 0),(.int 0),(.int 0),(.int 0),(.int 0),(.int 0),(fn 28 (pr (pr rC (.int 0)) (fn 10 (.int 0)))),(fn 28 (pr (pr ko (.int 0)) (fn 10 (.int 0)))),(fn 28 (pr (pr mr (.int 0)) (fn 10 (.int 0)))),(fn 28 (pr (pr rD (.int 0)) (fn 10 (.int 0)))),cM,cM,cM,(.int 0),(.int 0),(fn 28 (pr (pr kp (.int 0)) (fn 10 (.int 0)))),(fn 28 (pr (pr mt (.int 0)) (fn 10 (.int 0)))),(fn 28 (pr (pr rE (.int 0)) (fn 10 (.int 0)))),(fn 28 (pr (pr kq (.int 0)) (fn 10 (.int 0)))),(.int 0),(.int 0),(.int 0),(.int 0),(.int 0)])))<|fun ρ=>by
 rfl
def atA:=fa ((fn 117 (cU [(fn 28 (pr (pr nS (.int 0)) (fn 10 (.int 0)))),(.int 0),(.int 0),(.int 0),(.int 0),(.int 0),(fn 28 (pr (pr ip (.int 0)) (fn 10 (.int 0)))),(fn 28 (pr (pr rz (.int 0)) (fn 10 (.int 0)))),(fn 28 (pr (pr lA (.int 0)) (fn 10 (.int 0)))),(fn 28 (pr (pr mq (.int 0)) (fn 10 (.int 0)))),cM,cM,cM,(.int 0),(.int 0),(.int 0),(.int 0),(.int 0),(.int 0),(.int 0),(fn 28 (pr (pr rC (.int 0)) (fn 10 (.int 0)))),(fn 28 (pr (pr ko (.int 0)) (fn 10 (.int 0)))),(fn 28 (pr (pr mr (.int 0)) (fn 10 (.int 0)))),(fn 28 (pr (pr rD (.int 0)) (fn 10 (.int 0)))),cM,cM,cM,(.int 0),(.int 0),(fn 28 (pr (pr kp (.int 0)) (fn 10 (.int 0)))),(fn 28 (pr (pr mt (.int 0)) (fn 10 (.int 0)))),(fn 28 (pr (pr rE (.int 0)) (fn 10 (.int 0)))),(fn 28 (pr (pr kq (.int 0)) (fn 10 (.int 0)))),(.int 0),(.int 0),(.int 0),(.int 0),(.int 0)])))<|fun ρ=>by
 have h1:=@aIu ρ ([(fn 28 (pr (pr nS (.int 0)) (fn 10 (.int 0)))),(.int 0),(.int 0),(.int 0),(.int 0),(.int 0),(fn 28 (pr (pr ip (.int 0)) (fn 10 (.int 0)))),(fn 28 (pr (pr rz (.int 0)) (fn 10 (.int 0)))),(fn 28 (pr (pr lA (.int 0)) (fn 10 (.int 0)))),(fn 28 (pr (pr mq (.int 0)) (fn 10 (.int 0)))),cM,cM,cM,(.int 0),(.int 0),(.int 0),(.int 0),(.int 0),(.int 0),(.int 0),(fn 28 (pr (pr rC (.int 0)) (fn 10 (.int 0)))),(fn 28 (pr (pr ko (.int 0)) (fn 10 (.int 0)))),(fn 28 (pr (pr mr (.int 0)) (fn 10 (.int 0)))),(fn 28 (pr (pr rD (.int 0)) (fn 10 (.int 0)))),cM,cM,cM,(.int 0),(.int 0),(fn 28 (pr (pr kp (.int 0)) (fn 10 (.int 0)))),(fn 28 (pr (pr mt (.int 0)) (fn 10 (.int 0)))),(fn 28 (pr (pr rE (.int 0)) (fn 10 (.int 0)))),(fn 28 (pr (pr kq (.int 0)) (fn 10 (.int 0)))),(.int 0),(.int 0),(.int 0),(.int 0),(.int 0)]) rfl;exact h1
def atB:=fa ((fn 189 (pr (cU [(fn 30 (.int 0)),(.int 0),(.int 0),(.int 0),(.int 0),(.int 0),(fn 30 (.int 0)),(fn 30 (.int 0)),(fn 30 (.int 0)),(fn 30 (.int 0)),cM,cM,cM,(.int 0),(.int 0),(.int 0),(.int 0),(.int 0),(.int 0),(.int 0),(fn 30 (.int 0)),(fn 30 (.int 0)),(fn 30 (.int 0)),(fn 30 (.int 0)),cM,cM,cM,(.int 0),(.int 0),(fn 30 (.int 0)),(fn 30 (.int 0)),(fn 30 (.int 0)),(fn 30 (.int 0)),(.int 0),(.int 0),(.int 0),(.int 0),(.int 0)]) (cU [(fn 28 (pr (pr nS (.int 0)) (fn 10 (.int 0)))),(.int 0),(.int 0),(.int 0),(.int 0),(.int 0),(fn 28 (pr (pr ip (.int 0)) (fn 10 (.int 0)))),(fn 28 (pr (pr rz (.int 0)) (fn 10 (.int 0)))),(fn 28 (pr (pr lA (.int 0)) (fn 10 (.int 0)))),(fn 28 (pr (pr mq (.int 0)) (fn 10 (.int 0)))),cM,cM,cM,(.int 0),(.int 0),(.int 0),(.int 0),(.int 0),(.int 0),(.int 0),(fn 28 (pr (pr rC (.int 0)) (fn 10 (.int 0)))),(fn 28 (pr (pr ko (.int 0)) (fn 10 (.int 0)))),(fn 28 (pr (pr mr (.int 0)) (fn 10 (.int 0)))),(fn 28 (pr (pr rD (.int 0)) (fn 10 (.int 0)))),cM,cM,cM,(.int 0),(.int 0),(fn 28 (pr (pr kp (.int 0)) (fn 10 (.int 0)))),(fn 28 (pr (pr mt (.int 0)) (fn 10 (.int 0)))),(fn 28 (pr (pr rE (.int 0)) (fn 10 (.int 0)))),(fn 28 (pr (pr kq (.int 0)) (fn 10 (.int 0)))),(.int 0),(.int 0),(.int 0),(.int 0),(.int 0)]))))<|fun ρ=>by
 have h1:=@aIW ρ ([(fn 30 (.int 0)),(.int 0),(.int 0),(.int 0),(.int 0),(.int 0),(fn 30 (.int 0)),(fn 30 (.int 0)),(fn 30 (.int 0)),(fn 30 (.int 0)),cM,cM,cM,(.int 0),(.int 0),(.int 0),(.int 0),(.int 0),(.int 0),(.int 0),(fn 30 (.int 0)),(fn 30 (.int 0)),(fn 30 (.int 0)),(fn 30 (.int 0)),cM,cM,cM,(.int 0),(.int 0),(fn 30 (.int 0)),(fn 30 (.int 0)),(fn 30 (.int 0)),(fn 30 (.int 0)),(.int 0),(.int 0),(.int 0),(.int 0),(.int 0)]) ([(fn 28 (pr (pr nS (.int 0)) (fn 10 (.int 0)))),(.int 0),(.int 0),(.int 0),(.int 0),(.int 0),(fn 28 (pr (pr ip (.int 0)) (fn 10 (.int 0)))),(fn 28 (pr (pr rz (.int 0)) (fn 10 (.int 0)))),(fn 28 (pr (pr lA (.int 0)) (fn 10 (.int 0)))),(fn 28 (pr (pr mq (.int 0)) (fn 10 (.int 0)))),cM,cM,cM,(.int 0),(.int 0),(.int 0),(.int 0),(.int 0),(.int 0),(.int 0),(fn 28 (pr (pr rC (.int 0)) (fn 10 (.int 0)))),(fn 28 (pr (pr ko (.int 0)) (fn 10 (.int 0)))),(fn 28 (pr (pr mr (.int 0)) (fn 10 (.int 0)))),(fn 28 (pr (pr rD (.int 0)) (fn 10 (.int 0)))),cM,cM,cM,(.int 0),(.int 0),(fn 28 (pr (pr kp (.int 0)) (fn 10 (.int 0)))),(fn 28 (pr (pr mt (.int 0)) (fn 10 (.int 0)))),(fn 28 (pr (pr rE (.int 0)) (fn 10 (.int 0)))),(fn 28 (pr (pr kq (.int 0)) (fn 10 (.int 0)))),(.int 0),(.int 0),(.int 0),(.int 0),(.int 0)]) rfl rfl rfl rfl rfl rfl;exact h1
def atC:=fa ((fn 158 (pr (fn 10 (.int 0)) (.int 0))))<|fun ρ=>by
 rfl
def p62:List Fa:=[ey,atz,atA,atB,atC]
theorem aHQ:aV Tryz.prog (bz (aGv zNl)):=sc p62 ([]) Ml ([]) (by kernel_rfl) (by kernel_rfl)
def acU:Nl:=nc aHQ aEW
def atD:=fb [(.not tX),(.iff ip xG)] (.not ip)<|au fun ρ p0 p1=>by
 have:=@fE ρ bS
 simp only[aa,lY,gh]at *;grind
def atE:=fb [tX,(.iff ip xG)] ip<|au fun ρ p0 p1=>by
 have:=@fE ρ bS
 simp only[aa,lY,gh]at *;grind
def atF:=fb [(.not tX),(.iff nR xG)] (.not nR)<|au fun ρ p0 p1=>by
 have:=@fE ρ bS
 simp only[aa,lY,gh]at *;grind
def atG:=fb [tX,(.iff nR xG)] nR<|au fun ρ p0 p1=>by
 have:=@fE ρ bS
 simp only[aa,lY,gh]at *;grind
def atH:=fb WQ WO<|au fun ρ p0 p1=>by
 have h:=p0
 rw[cb]at h
 have h:=h p1
 rw[cZ]at h
 exact h.1
def atI:=fb WQ WP<|au fun ρ p0 p1=>by
 have h:=p0
 rw[cb]at h
 have h:=h p1
 rw[cZ]at h
 exact h.2
def atJ:=fb [tX] xG<|ak fun ρ p0=>by
 exact fE.1 p0
def atK:=fb [jy,jb,(cmp .eql lA (fn 9 (pr (fn 1 (pr bS (.int 0))) (.int 12))))] (.not (cmp .lss (.int 40) lA))<|ay fun ρ p0 p1 p2=>by
 have h7:=p0
 rw[cb]at h7
 have h7:=h7 p1
 have:=ao h7
 simp only[aa]at *;omega
def atL:=fb [jy,jb,(.not (cmp .lss ko (.int 0))),(cmp .eql ko (fn 9 (pr (fn 1 (pr bS (.int 6))) (.int 1))))] (.not (cmp .lss (.int 40) ko))<|aF fun ρ p0 p1 p2 p3=>by
 have h7:=p0
 rw[cb]at h7
 have h7:=h7 p1
 have:=ao h7
 have r1:E.I ρ (fn 9 (pr (fn 1 (pr bS (.int 6))) (.int 1)))=E.I ρ (fn 0 (fn 1 (pr bS (.int 6)))):=dV;simp only[aa]at *;omega
def atM:=fb [jy,jb,(.not (cmp .lss kp (.int 0))),(cmp .eql kp (fn 9 (pr (fn 1 (pr bS (.int 7))) (.int 1))))] (.not (cmp .lss (.int 40) kp))<|aF fun ρ p0 p1 p2 p3=>by
 have h7:=p0
 rw[cb]at h7
 have h7:=h7 p1
 have:=ao h7
 have r1:E.I ρ (fn 9 (pr (fn 1 (pr bS (.int 7))) (.int 1)))=E.I ρ (fn 0 (fn 1 (pr bS (.int 7)))):=dV;simp only[aa]at *;omega
def atN:=fb [jy,jb,(.not (cmp .lss kq (.int 0))),(cmp .eql kq (fn 9 (pr (fn 1 (pr bS (.int 8))) (.int 1))))] (.not (cmp .lss (.int 40) kq))<|aF fun ρ p0 p1 p2 p3=>by
 have h7:=p0
 rw[cb]at h7
 have h7:=h7 p1
 have:=ao h7
 have r1:E.I ρ (fn 9 (pr (fn 1 (pr bS (.int 8))) (.int 1)))=E.I ρ (fn 0 (fn 1 (pr bS (.int 8)))):=dV;simp only[aa]at *;omega
def atO:=fb [jy,jb,(.not (cmp .lss rr (.int 0))),(cmp .eql rr (fn 9 (pr (fn 1 (pr bS (.int 9))) (.int 1))))] (.not (cmp .lss (.int 40) rr))<|aF fun ρ p0 p1 p2 p3=>by
 have h7:=p0
 rw[cb]at h7
 have h7:=h7 p1
 have:=ao h7
 have r1:E.I ρ (fn 9 (pr (fn 1 (pr bS (.int 9))) (.int 1)))=E.I ρ (fn 0 (fn 1 (pr bS (.int 9)))):=dV;simp only[aa]at *;omega
def atP:=fb [jy,jb,(.not (cmp .lss ru (.int 0))),(cmp .eql ru (fn 9 (pr (fn 1 (pr bS (.int 20))) (.int 1))))] (.not (cmp .lss (.int 40) ru))<|aF fun ρ p0 p1 p2 p3=>by
 have h7:=p0
 rw[cb]at h7
 have h7:=h7 p1
 have:=ao h7
 have r1:E.I ρ (fn 9 (pr (fn 1 (pr bS (.int 20))) (.int 1)))=E.I ρ (fn 0 (fn 1 (pr bS (.int 20)))):=dV;simp only[aa]at *;omega
def atQ:=fb [jy,jb,(.not (cmp .lss rx (.int 0))),(cmp .eql rx (fn 9 (pr (fn 1 (pr bS (.int 21))) (.int 1))))] (.not (cmp .lss (.int 40) rx))<|aF fun ρ p0 p1 p2 p3=>by
 have h7:=p0
 rw[cb]at h7
 have h7:=h7 p1
 have:=ao h7
 have r1:E.I ρ (fn 9 (pr (fn 1 (pr bS (.int 21))) (.int 1)))=E.I ρ (fn 0 (fn 1 (pr bS (.int 21)))):=dV;simp only[aa]at *;omega
def atS:=fb [jy,jb,(.not (cmp .lss pn (.int 0))),(cmp .eql pn (fn 9 (pr (fn 1 (pr bS (.int 22))) (.int 1))))] (.not (cmp .lss (.int 40) pn))<|aF fun ρ p0 p1 p2 p3=>by
 have h7:=p0
 rw[cb]at h7
 have h7:=h7 p1
 have:=ao h7
 have r1:E.I ρ (fn 9 (pr (fn 1 (pr bS (.int 22))) (.int 1)))=E.I ρ (fn 0 (fn 1 (pr bS (.int 22)))):=dV;simp only[aa]at *;omega
def atT:=fb [jy,jb,(.not (cmp .lss pm (.int 0))),(cmp .eql pm (fn 9 (pr (fn 1 (pr bS (.int 23))) (.int 1))))] (.not (cmp .lss (.int 40) pm))<|aF fun ρ p0 p1 p2 p3=>by
 have h7:=p0
 rw[cb]at h7
 have h7:=h7 p1
 have:=ao h7
 have r1:E.I ρ (fn 9 (pr (fn 1 (pr bS (.int 23))) (.int 1)))=E.I ρ (fn 0 (fn 1 (pr bS (.int 23)))):=dV;simp only[aa]at *;omega
def atU:=fb [jy,jb,WR] (.not (cmp .lss (.int 40) po))<|ay fun ρ p0 p1 p2=>by
 have h7:=p0
 rw[cb]at h7
 have h7:=h7 p1
 have:=ao h7
 simp only[aa]at *;omega
def atV:=fb [jy,jb,WS] (.not (cmp .lss (.int 40) pp))<|ay fun ρ p0 p1 p2=>by
 have h7:=p0
 rw[cb]at h7
 have h7:=h7 p1
 have:=ao h7
 simp only[aa]at *;omega
def atW:=fb [jy,jb,WR,WT] (fn 158 (pr (var 33) po))<|aF fun ρ p0 p1 p2 p3=>by
 have h7:=p0
 rw[cb]at h7
 have h7:=h7 p1;have ej:E.I ρ po=E.I ρ (fn 9 (pr (fn 1 (pr bS (.int 29))) (.int 5))):=by
  simp only[aa]at *;omega
 exact afo p3 (Eq.mp jt h7).2.2.2.1 ej
def atX:=fb [jy,jb,WS,WU] (fn 158 (pr (var 36) pp))<|aF fun ρ p0 p1 p2 p3=>by
 have h7:=p0
 rw[cb]at h7
 have h7:=h7 p1;have ej:E.I ρ pp=E.I ρ (fn 9 (pr (fn 1 (pr bS (.int 30))) (.int 5))):=by
  simp only[aa]at *;omega
 exact afo p3 (Eq.mp jt h7).2.2.2.2.1 ej
def atY:=fb [(cmp .eql (fn 0 (var 42)) (.int 0)),(cmp .eql (fn 0 (var 39)) (.int 0)),WU,WT,(fn 200 (pr (var 30) (fn 1 (pr bS (.int 23))))),(fn 200 (pr (var 27) (fn 1 (pr bS (.int 22))))),(fn 200 (pr (var 24) (fn 1 (pr bS (.int 21))))),(fn 200 (pr (var 21) (fn 1 (pr bS (.int 20))))),(fn 200 (pr (var 18) (fn 1 (pr bS (.int 9))))),(fn 200 (pr rE (fn 1 (pr bS (.int 8))))),(fn 200 (pr rD (fn 1 (pr bS (.int 7))))),(fn 200 (pr rC (fn 1 (pr bS (.int 6))))),(fn 255 (pr rz (pr mu (pr bS (fn 9 (pr (fn 1 (pr bS (.int 0))) (.int 12))))))),(fn 256 (pr ip (pr mu bS))),tX,(fn 259 (pr rA (pr mu bS)))] (fn 221 (pr rA (pr ip (pr rz (pr rC (pr rD (pr rE (pr (var 18) (pr (var 21) (pr (var 24) (pr (var 27) (pr (var 30) (pr (var 33) (pr (var 36) (pr (var 39) (pr (var 42) (.int 0)))))))))))))))))<|pP fun ρ p0 p1 p2 p3 p4 p5 p6 p7 p8 p9 am av az aD aJ aL=>by
 have z1:=p1;have z2:=p0
 rw[cV]at z1 z2
 exact aI2 aJ aL aD az av am p9 p8 p7 p6 p5 p4 p3 p2 z1 z2
def mF:List Fa:=[ey,atD,atE,atF,atG,atH,atI,atJ,atK,atL,atM,atN,atO,atP,atQ,atS,atT,atU,atV,atW,atX,atY]
theorem aed:nr Tryz.prog (fun tb=>rX vz (run Tryz.prog (tb.plus (fl mF) [] acU.l) 3000 (.call 5 aBB) .nil (tj 2 MN) SX.one))=true:=by kernel_rfl

theorem walk{H:Type}(W:World)(base:Nat)(enc:TypeId×Value->H)(v0:Value)(d0:DataW H)(p0:List MemPlace)(v1:Value)(d1:DataW H)(p1:List MemPlace)
  (o0:Value.okWide Tryz.prog W .any base 22 v0)(h0:DataW.Trod enc Tryz.prog W 0 (fun _=>true) true 22 v0 d0 p0)
  (o1:Value.okWide Tryz.prog W .any base 34 v1)(h1:DataW.Trod enc Tryz.prog W 0 (fun _=>true) true 34 v1 d1 p1):
  Calls Tryz.prog 5 #[v0,v1] W fun e W'=>e=.returned (.bool true)/\Below W.heap.size W W':=by
 obtain⟨x0,rfl,k0,w0⟩:=aFb (n:=9) (ks:=kC) Tryz.underlying22 (by kernel_rfl) o0 h0
 obtain⟨x1,rfl,l1,k1,w1,s1⟩:=aFa aCe (n:=9) (ks:=kB) Tryz.underlying34 (by kernel_rfl) o1 h1
 have q0:=aJQ w0;refine afQ good (facts:=fl mF) (oo _) (anns:=[]) (mX _ (by kernel_rfl)) acU.h (vs:=[x0,.lst x1]) (pc:=MN) aed ?_ W ⟨k0,⟨⟨k1 0 _ rfl,trivial,trivial,trivial,trivial,trivial,k1 6 _ rfl,k1 7 _ rfl,k1 8 _ rfl,k1 9 _ rfl,trivial,trivial,trivial,trivial,trivial,trivial,trivial,trivial,trivial,trivial,k1 20 _ rfl,k1 21 _ rfl,k1 22 _ rfl,k1 23 _ rfl,trivial,trivial,trivial,trivial,trivial,k1 29 _ rfl,k1 30 _ rfl,k1 31 _ rfl,k1 32 _ rfl,trivial,trivial,trivial,trivial,trivial,trivial⟩,trivial⟩⟩;unfold MN;try simp only[afW,aaS,List.cons_append,List.nil_append]
 repeat' (refine aFo ?_ ?_)
 all_goals first
  |exact aFp
  |(exact aJO l1 w1)
  |(exact aJP rfl rfl q0)
  |(first | exact q0 | skip;done)
  |(simp only[ah,jd,eV,Env.of,aeK,aF8,aeJ,gh,aDr,aDq,aJK];omega)

set_option maxRecDepth 100000 in
theorem aEl(os:Os)(started:os.Started)(H:Type)(enc:TypeId×Value->H):
    ReturnsInHanded {} Tryz.checked os 5 .any (Rows.combatDamagesSpec.pre6 enc Tryz.prog Tryz.f5 Rows.combatDamagesRow.domain false) (Rows.combatDamagesSpec.post enc Tryz.prog Tryz.f5 false true false false):=by
  refine returnsInHanded_of_change (C:=Tryz.checked) own started (by kernel_rfl) Tryz.func5
    (ChangeSpec.witness6 (enc:=enc) (C:=Tryz.checked) false ⟨#[],#[.slice none 0 0,.agg #[.slice none 0 0,.int .i64 0,.int .i64 0,.int .i64 0,.int .i64 0,.int .i64 0,.slice none 0 0,.slice none 0 0,.slice none 0 0,.slice none 0 0,.bool false,.bool false,.bool false,.int .i64 0,.int .i64 0,.int .i64 0,.int .i64 0,.int .i64 0,.int .i64 0,.int .i64 0,.slice none 0 0,.slice none 0 0,.slice none 0 0,.slice none 0 0,.bool false,.bool false,.bool false,.int .i64 0,.int .i64 0,.slice none 0 0,.slice none 0 0,.slice none 0 0,.slice none 0 0,.int .i64 0,.int .i64 0,.int .i64 0,.int .i64 0,.int .i64 0]],[]⟩ 8 (by kernel_rfl) (by kernel_rfl) (by kernel_rfl) (by kernel_rfl)) ?_
  intro W base args ds gs before hval0 hW hcnd _;have hval:∀(j:Nat) t v,Tryz.f5.params[j]? =some t->args[j]? =some v->Value.okWide Tryz.prog W .any base t v:=hval0;have hW':=hW
  obtain⟨p,q,hA0,hV,rfl,hfz,hnd⟩:=hW
  have hA:DataW.TrodAll enc Tryz.prog W 0 (fun _=>true) true Tryz.f5.params.toList args.toList ds p:=hA0
  rw[Tryz.params5]at hA hval
  obtain⟨v0,vs0,d0,ds0,p0,q0,hargs,rfl,rfl,h0,r0⟩:=trodAll_cons hA
  obtain⟨v1,vs1,d1,ds1,p1,q1,rfl,rfl,rfl,h1,r1⟩:=trodAll_cons r0
  obtain⟨rfl,rfl,rfl⟩:=trodAll_nil r1
  obtain rfl:args= #[v0,v1]:=by cases args;simp_all
  obtain⟨rfl,rfl⟩:=trodVars_none hV
  have lt0:∀x∈p0,x.block<W.heap.size:=by obtain⟨m,hm⟩:=h0;exact DataW.trod_lt m _ _ _ hm
  have lt1:∀x∈p1,x.block<W.heap.size:=by obtain⟨m,hm⟩:=h1;exact DataW.trod_lt m _ _ _ hm
  have o0:=hval 0 22 v0 rfl rfl;have o1:=hval 1 34 v1 rfl rfl;clear hA0 hval0
  refine(walk W base enc v0 d0 p0 v1 d1 p1 o0 h0 o1 h1).mono fun e W' ⟨he,bel⟩=>?_
  subst he
  exact⟨_,rfl,_,_,_,[],_,[],hW',trodAll_mk1 (shut_bool Tryz.underlying4 _),(trodAll_cons_mk (Below.trod laidOut (by kernel_rfl) (of_decide_eq_true (by kernel_rfl)) h0 bel lt0) (trodAll_cons_mk (Below.trod laidOut (by kernel_rfl) (of_decide_eq_true (by kernel_rfl)) h1 bel lt1) trodAll_mk0)),rfl,bel.frame _,fun h=>by cases h⟩

theorem E3:Rows.combatDamagesRow.holds Tryz.pinned (OpenSpec.ofChange Rows.combatDamagesSpec):=
 OpenClaim.holds_of_wide 5 Tryz.f5 rfl rfl rfl rfl rfl rfl rfl ⟨rfl,rfl,rfl,rfl,rfl⟩ rfl rfl rfl rfl rfl (by kernel_rfl) Tryz.func5 (by kernel_rfl)
  (of_decide_eq_true (by kernel_rfl)) (by unfold Func.isWrapper;first | (rw[if_pos (by decide +kernel)];kernel_rfl) | (rw[if_neg (by decide +kernel)];exact⟨rfl,rfl⟩))
  (fun os started H enc _=>aEl os started H enc)

theorem proved:Rows.CombatDamagesSaid:=E3

end
end Go.Proofs.YtnggbcblogpnfaaGreat.combatDamages
