/-
  CombatDamages: contracts of functions, part 13.
-/
import Derived.Test.YtnggbcblogpnfaaGreatCombatDamagesPartl
namespace Go.Proofs.YtnggbcblogpnfaaGreat.combatDamages
open Go.ChangeShapes Go.WideShapes Go.ChangeAt Go.RowKit
open Go.SX
open Go.SX.E (fn pr cmp var)
set_option linter.unusedVariables false
set_option linter.unusedSimpArgs false
set_option maxRecDepth 100000
noncomputable section
abbrev aq:E:=var 0
abbrev aw:E:=var 1
abbrev aj:E:=var 2
abbrev JJ3:E:=cmp .lss aj (.int 0)
abbrev Qw:E:=.not JJ3
abbrev Qx:E:=cmp .lss aj (fn 9 (pr aq (.int 14)))
abbrev cQ:E:=var 7
abbrev aQ:E:=var 8
abbrev ic:E:=var 4
abbrev AT:E:=cmp .lss aQ (fn 9 (pr (fn 1 (pr aq (.int 32))) (.int 2)))
abbrev Qp:E:=cmp .eql (fn 1 (pr (fn 1 (pr aq (.int 32))) (fn 6 (pr (fn 8 (pr aQ (.int 2))) (.int 1))))) aw
abbrev atZ:E:=pr (fn 1 (pr aq (.int 32))) (pr aw aQ)
abbrev at1:E:=fn 230 atZ
abbrev HB:E:=.not at1
abbrev at2:E:=cmp .lss (fn 9 (pr (fn 1 (pr aq (.int 32))) (.int 2))) aQ
abbrev Qq:E:=.not at2
abbrev nz:E:=.not (cmp .lss aQ (.int 0))
abbrev HC:E:=fn 117 aq
abbrev at3:=[AT,nz]
abbrev AO:=HC::at3
abbrev at4:E:=cmp .lss (.ar .add .i64 aQ (.int 1)) (.int 0)
abbrev Qr:E:=.not at4
abbrev dh:E:=var 13
abbrev cI:E:=var 16
abbrev Qs:E:=.not (fn 1 (pr (fn 2 (pr dh (pr (fn 6 (pr (fn 8 (pr cI (.int 12))) (.int 5))) (fn 252 (pr (fn 1 (pr dh (fn 6 (pr (fn 8 (pr cI (.int 12))) (.int 5))))) (fn 251 (pr aq (pr aj (pr ic (pr cQ aQ)))))))))) (fn 6 (pr (fn 8 (pr cI (.int 12))) (.int 11)))))
abbrev Qt:E:=cmp .lss (.int 0) (fn 251 (pr aq (pr aj (pr ic (pr cQ aQ)))))
abbrev at5:E:=cmp .lss cI (.int 0)
abbrev at6:E:=.not at5
abbrev HD:=[at6]
abbrev HE:E:=pr dh (pr cI (pr aq (pr aj (pr ic (pr cQ aQ)))))
abbrev hJ:E:=var 10
abbrev gS:E:=var 11
abbrev k9:E:=fn 130 aw
abbrev HF:E:=cmp .eql (.ar .sub .i64 (.int 1) (fn 1 (pr aw (.int 34)))) (.int 0)
abbrev Qu:E:=cmp .eql (fn 1 (pr aw (.int 34))) (.int 1)
abbrev AP:E:=.not HF
abbrev Qv:E:=cmp .eql (.ar .sub .i64 (.int 1) (fn 1 (pr aw (.int 34)))) (.int 1)
abbrev HG:E:=cmp .eql (fn 1 (pr aw (.int 34))) (.int 0)
abbrev pf:E:=fn 196 (pr aj aw)
abbrev AQ:=[k9,pf]
abbrev nC:E:=cmp .lss aQ (fn 0 (fn 1 (pr aw (.int 31))))
abbrev HH:E:=.not nC
abbrev lg:E:=var 6
abbrev wO:E:=fn 257 (pr lg (pr aq (pr aw aQ)))
abbrev wP:E:=cmp .eql cQ (fn 254 (pr aq (pr aw aQ)))
abbrev at7:E:=cmp .lss (fn 0 (fn 1 (pr aw (.int 31)))) aQ
abbrev HI:E:=.not at7
abbrev bE:E:=var 9
abbrev iJ:E:=var 3
abbrev AR:E:=cmp .eql bE (fn 120 (pr aw (pr (fn 1 (pr (fn 1 (pr aw (.int 31))) aQ)) (fn 9 (pr (fn 1 (pr aw (.int 0))) (.int 12))))))
abbrev wQ:E:=cmp .eql hJ (fn 258 (pr aw (fn 1 (pr (fn 1 (pr aw (.int 31))) aQ))))
abbrev HJ:E:=cmp .eql hJ (.int 0)
abbrev wR:E:=.not HJ
abbrev HK:E:=cmp .eql gS (fn 120 (pr aw (pr hJ (fn 9 (pr (fn 1 (pr aw (.int 0))) (.int 12))))))
abbrev at8:E:=cmp .eql iJ (fn 9 (pr (fn 1 (pr aw (.int 0))) (.int 12)))
abbrev Qy:=[at8]
abbrev wS:E:=fn 117 aw
abbrev at9:=[nC,nz]
abbrev AS:=wS::at9
abbrev Qz:=[k9,wS]
abbrev aua:=HI::pf::Qz
abbrev aub:=wO::aua
abbrev QA:=HH::aub
abbrev HL:=nz::Qz
abbrev QB:E:=cmp .lss (fn 7 (pr (fn 0 (fn 1 (pr aw (.int 31)))) (.ar .add .i64 aQ (.int 1)))) (fn 7 (pr (fn 0 (fn 1 (pr aw (.int 31)))) aQ))
abbrev auc:E:=cmp .lss (fn 7 (pr (fn 0 (fn 1 (pr aw (.int 31)))) (.ar .add .i64 aQ (.int 1)))) (.int 0)
abbrev QC:E:=.not auc
def arn:=fa ((cmp .eql (.mn (.int 99) (.ar .add .i64 (.mx (.int 0) (.mn aq (.int 99))) (.mx (.int 0) (.mn aw (.int 99))))) (fn 252 (pr aq aw))))<|fun ρ=>by
 try simp only[aa,ae,fF,gi,fI]at *
 obtain⟨a3,ea3,qa3⟩:=ab ((max (0) (min (E.I ρ aq) (99)))+(max (0) (min (E.I ρ aw) (99))))
 try simp only[ea3]at *
 omega
def p53:List Fa:=[ey,arn]
theorem aHG:aV Tryz.prog (bz (aeS 66 [])):=sc p53 ([]) acN ([]) (by kernel_rfl) (by kernel_rfl)
def acO:Nl:=nc (r8 aHG) acN
def aro:=fb [Qw,Qx] (cmp .eql (fn 252 (pr (fn 252 (pr (fn 1 (pr aq (fn 6 (pr (fn 8 (pr aj (.int 14))) (.int 8))))) cQ)) aQ)) (fn 251 (pr aq (pr aj (pr ic (pr cQ aQ))))))<|au fun ρ p0 p1=>by
 rw[cV,ww,gi,gi]
 rw[if_neg (by simp only[aa]at *;omega),YX (by simp only[aa]at *;omega) (by simp only[aa]at *;omega)]
def arp:=fb [Qw,(.not Qx)] (cmp .eql (fn 252 (pr (fn 252 (pr (.int 0) cQ)) aQ)) (fn 251 (pr aq (pr aj (pr ic (pr cQ aQ))))))<|au fun ρ p0 p1=>by
 rw[cV,ww,gi,gi]
 have hc:eO (E.L ρ aq) (E.I ρ aj) 8=0:=YY (by simp only[aa]at *;omega)
 rw[if_neg (by simp only[aa]at *;omega),hc]
 rfl
def p54:List Fa:=[ey,Qi,Qh,aro,arp]
theorem aHH:aV Tryz.prog (bz (aeZ 29 [])):=sc p54 ([]) acO ([]) (by kernel_rfl) (by kernel_rfl)
def acP:Nl:=nc (r8 aHH) acO
def arq:=fa ((.not (fn 230 (pr (fn 1 (pr aq (.int 32))) (pr aw (.int 0))))))<|fun ρ=>by
 have h:E.I ρ (.int 0)<=0:=by
  simp only[aa,and_true]at *;omega
 rw[gh]
 exact aI8 h
def ars:=fb [AT,Qp,HB,Qq,nz,(fn 115 aq),HC,(fn 116 aq)] (cmp .eql (fn 1 (pr (fn 1 (pr aq (.int 32))) (fn 6 (pr (fn 8 (pr aQ (.int 2))) (.int 0))))) (fn 258 (pr aq aw)))<|dO fun ρ p0 p1 p2 p3 p4 p5 p6 p7=>by
 have h:=p2
 rw[gh]at h
 have g:=p1
 rw[cV]at g ⊢
 exact(aJn p5 (by simp only[aa]at *;omega) (by simp only[aa]at *;omega) g).symm
def art:=fb AO Qr<|ay fun ρ p0 p1 p2=>by
 have:=ao p0
 try simp only[aa,ae]at *
 obtain⟨a4,ea4,qa4⟩:=ab ((E.I ρ aQ)+(1))
 try simp only[ea4]at *
 omega
def aru:=fb [(.not AT),HB,Qq,(fn 115 aq)] (cmp .eql (fn 258 (pr aq aw)) (.int 0))<|aF fun ρ p0 p1 p2 p3=>by
 have h:=p1
 rw[gh]at h
 rw[cV]
 exact aJm p3 h (by simp only[aa]at *;omega)
def arv:=fb AO (.not (cmp .lss (fn 9 (pr (fn 1 (pr aq (.int 32))) (.int 2))) (.ar .add .i64 aQ (.int 1))))<|ay fun ρ p0 p1 p2=>by
 have:=ao p0
 try simp only[aa,ae]at *
 obtain⟨a4,ea4,qa4⟩:=ab ((E.I ρ aQ)+(1))
 try simp only[ea4]at *
 omega
def arw:=fb [AT,(.not Qp),HB,nz,HC] (.not (fn 230 (pr (fn 1 (pr aq (.int 32))) (pr aw (.ar .add .i64 aQ (.int 1))))))<|bl fun ρ p0 p1 p2 p3 p4=>by
 have hb:=(ao p4).2.2.1.2.2.1;have hq:=p2
 rw[gh]at hq
 have:=(ao p4).2.2.1.2.2.2.2
 have h0:0<=E.I ρ aQ:=by
  simp only[aa,and_true]at *;omega
 have hn:E.I ρ (.ar .add .i64 aQ (.int 1))=E.I ρ aQ+1:=by
  simp only[aa,ae,and_true]at *
  obtain⟨w,ew,qw⟩:=ab (E.I ρ aQ+1)
  simp only[ew];omega
 have hc:¬E.I ρ (fn 1 (pr (fn 1 (pr aq (.int 32))) (fn 6 (pr (fn 8 (pr aQ (.int 2))) (.int 1)))))=E.I ρ aw:=by
  simp only[aa,and_true]at *;omega
 rw[gh]
 exact aI7 hq h0 hn hc
def arx:=fb AO (cmp .lss (fn 7 (pr (fn 9 (pr (fn 1 (pr aq (.int 32))) (.int 2))) (.ar .add .i64 aQ (.int 1)))) (fn 7 (pr (fn 9 (pr (fn 1 (pr aq (.int 32))) (.int 2))) aQ)))<|ay fun ρ p0 p1 p2=>by
 have:=ao p0
 try simp only[aa,ae]at *
 obtain⟨a4,ea4,qa4⟩:=ab ((E.I ρ aQ)+(1))
 try simp only[ea4]at *
 omega
def ary:=fb AO (.not (cmp .lss (fn 7 (pr (fn 9 (pr (fn 1 (pr aq (.int 32))) (.int 2))) (.ar .add .i64 aQ (.int 1)))) (.int 0)))<|ay fun ρ p0 p1 p2=>by
 have:=ao p0
 try simp only[aa,ae]at *
 obtain⟨a4,ea4,qa4⟩:=ab ((E.I ρ aQ)+(1))
 try simp only[ea4]at *
 omega
def p55:List Fa:=[ey,arq,ars,art,aru,arv,arw,arx,ary]
theorem aHI:aV Tryz.prog (bz (aGj)):=sc p55 (aA4) acP ([]) (by kernel_rfl) (by kernel_rfl)
def acQ:Nl:=nc aHI acP
def arz:=fb (Qs::Qt::HD) (fn 260 (pr (fn 2 (pr (fn 2 (pr dh (pr (fn 6 (pr (fn 8 (pr cI (.int 12))) (.int 5))) (fn 252 (pr (fn 1 (pr dh (fn 6 (pr (fn 8 (pr cI (.int 12))) (.int 5))))) (fn 251 (pr aq (pr aj (pr ic (pr cQ aQ)))))))))) (pr (fn 6 (pr (fn 8 (pr cI (.int 12))) (.int 11))) (fn 222 (pr aq (pr aj (.int 8))))))) HE))<|ay fun ρ p0 p1 p2=>by
 have h0:0<=E.I ρ cI:=by
  simp only[aa]at *;omega
 refine @NO _ dh _ _ _ _ _ _ _ h0 ?_;show _=U.bool (E.B ρ (fn 1 (pr dh (fn 6 (pr (fn 8 (pr cI (.int 12))) (.int 11)))))||_);have e:=@Kx _ dh _ (fn 252 (pr (fn 1 (pr dh (fn 6 (pr (fn 8 (pr cI (.int 12))) (.int 5))))) (fn 251 (pr aq (pr aj (pr ic (pr cQ aQ))))))) h0;have e:E.B ρ (fn 1 (pr (fn 2 (pr dh (pr (fn 6 (pr (fn 8 (pr cI (.int 12))) (.int 5))) (fn 252 (pr (fn 1 (pr dh (fn 6 (pr (fn 8 (pr cI (.int 12))) (.int 5))))) (fn 251 (pr aq (pr aj (pr ic (pr cQ aQ)))))))))) (fn 6 (pr (fn 8 (pr cI (.int 12))) (.int 11)))))=E.B ρ (fn 1 (pr dh (fn 6 (pr (fn 8 (pr cI (.int 12))) (.int 11))))):=e;have hd:=p0
 rw[gh,Bool.not_eq_true,e]at hd
 rw[hd]
 have hp:=p1;simp only[aa]at hp
 rw[decide_eq_true hp]
 exact aCR
def arA:=fb (Qs::(.not Qt)::HD) (fn 260 (pr (fn 2 (pr (fn 2 (pr dh (pr (fn 6 (pr (fn 8 (pr cI (.int 12))) (.int 5))) (fn 252 (pr (fn 1 (pr dh (fn 6 (pr (fn 8 (pr cI (.int 12))) (.int 5))))) (fn 251 (pr aq (pr aj (pr ic (pr cQ aQ)))))))))) (pr (fn 6 (pr (fn 8 (pr cI (.int 12))) (.int 11))) (.bool false)))) HE))<|ay fun ρ p0 p1 p2=>by
 have h0:0<=E.I ρ cI:=by
  simp only[aa]at *;omega
 refine @NO _ dh _ _ _ _ _ _ _ h0 ?_;show _=U.bool (E.B ρ (fn 1 (pr dh (fn 6 (pr (fn 8 (pr cI (.int 12))) (.int 11)))))||_);have e:=@Kx _ dh _ (fn 252 (pr (fn 1 (pr dh (fn 6 (pr (fn 8 (pr cI (.int 12))) (.int 5))))) (fn 251 (pr aq (pr aj (pr ic (pr cQ aQ))))))) h0;have e:E.B ρ (fn 1 (pr (fn 2 (pr dh (pr (fn 6 (pr (fn 8 (pr cI (.int 12))) (.int 5))) (fn 252 (pr (fn 1 (pr dh (fn 6 (pr (fn 8 (pr cI (.int 12))) (.int 5))))) (fn 251 (pr aq (pr aj (pr ic (pr cQ aQ)))))))))) (fn 6 (pr (fn 8 (pr cI (.int 12))) (.int 11)))))=E.B ρ (fn 1 (pr dh (fn 6 (pr (fn 8 (pr cI (.int 12))) (.int 11))))):=e;have hd:=p0
 rw[gh,Bool.not_eq_true,e]at hd
 rw[hd]
 have hp:=p1;simp only[aa]at hp
 rw[decide_eq_false (by omega)]
 rfl
def arB:=fb ((fn 1 (pr (fn 2 (pr dh (pr (fn 6 (pr (fn 8 (pr cI (.int 12))) (.int 5))) (fn 252 (pr (fn 1 (pr dh (fn 6 (pr (fn 8 (pr cI (.int 12))) (.int 5))))) (fn 251 (pr aq (pr aj (pr ic (pr cQ aQ)))))))))) (fn 6 (pr (fn 8 (pr cI (.int 12))) (.int 11)))))::HD) (fn 260 (pr (fn 2 (pr (fn 2 (pr dh (pr (fn 6 (pr (fn 8 (pr cI (.int 12))) (.int 5))) (fn 252 (pr (fn 1 (pr dh (fn 6 (pr (fn 8 (pr cI (.int 12))) (.int 5))))) (fn 251 (pr aq (pr aj (pr ic (pr cQ aQ)))))))))) (pr (fn 6 (pr (fn 8 (pr cI (.int 12))) (.int 11))) (.bool true)))) HE))<|au fun ρ p0 p1=>by
 have h0:0<=E.I ρ cI:=by
  simp only[aa]at *;omega
 refine @NO _ dh _ _ _ _ _ _ _ h0 ?_;show _=U.bool (E.B ρ (fn 1 (pr dh (fn 6 (pr (fn 8 (pr cI (.int 12))) (.int 11)))))||_);have e:=@Kx _ dh _ (fn 252 (pr (fn 1 (pr dh (fn 6 (pr (fn 8 (pr cI (.int 12))) (.int 5))))) (fn 251 (pr aq (pr aj (pr ic (pr cQ aQ))))))) h0;have e:E.B ρ (fn 1 (pr (fn 2 (pr dh (pr (fn 6 (pr (fn 8 (pr cI (.int 12))) (.int 5))) (fn 252 (pr (fn 1 (pr dh (fn 6 (pr (fn 8 (pr cI (.int 12))) (.int 5))))) (fn 251 (pr aq (pr aj (pr ic (pr cQ aQ)))))))))) (fn 6 (pr (fn 8 (pr cI (.int 12))) (.int 11)))))=E.B ρ (fn 1 (pr dh (fn 6 (pr (fn 8 (pr cI (.int 12))) (.int 11))))):=e
 rw[<- e,show E.B ρ (fn 1 (pr (fn 2 (pr dh (pr (fn 6 (pr (fn 8 (pr cI (.int 12))) (.int 5))) (fn 252 (pr (fn 1 (pr dh (fn 6 (pr (fn 8 (pr cI (.int 12))) (.int 5))))) (fn 251 (pr aq (pr aj (pr ic (pr cQ aQ)))))))))) (fn 6 (pr (fn 8 (pr cI (.int 12))) (.int 11)))))=true from p0]
 rfl
def p56:List Fa:=[ey,arz,arA,arB]
theorem aHJ:aV Tryz.prog (bz (aGn)):=sc p56 ([]) acQ ([]) (by kernel_rfl) (by kernel_rfl)
def aEU:Nl:=nc aHJ acQ
def arC:=fb [(fn 116 aq),(fn 195 hJ),(fn 187 (pr hJ (fn 1 (pr aq (.int 29))))),(fn 195 gS),(fn 187 (pr gS (fn 1 (pr aq (.int 30)))))] (fn 196 (pr (cU [(fn 1 (pr aq (.int 0))),(fn 1 (pr aq (.int 1))),(fn 1 (pr aq (.int 2))),(fn 1 (pr aq (.int 3))),(fn 1 (pr aq (.int 4))),(fn 1 (pr aq (.int 5))),(fn 28 (pr (pr (var 14) (fn 0 (fn 1 (pr aq (.int 6))))) (fn 1 (pr aq (.int 6))))),(fn 28 (pr (pr (var 15) (fn 0 (fn 1 (pr aq (.int 7))))) (fn 1 (pr aq (.int 7))))),(fn 28 (pr (pr cI (fn 0 (fn 1 (pr aq (.int 8))))) (fn 1 (pr aq (.int 8))))),(fn 28 (pr (pr (var 17) (fn 0 (fn 1 (pr aq (.int 9))))) (fn 1 (pr aq (.int 9))))),(fn 1 (pr aq (.int 10))),(fn 1 (pr aq (.int 11))),(fn 1 (pr aq (.int 12))),(fn 1 (pr aq (.int 13))),(fn 1 (pr aq (.int 14))),(fn 1 (pr aq (.int 15))),(fn 1 (pr aq (.int 16))),(fn 1 (pr aq (.int 17))),(fn 1 (pr aq (.int 18))),(fn 1 (pr aq (.int 19))),(fn 28 (pr (pr (var 18) (fn 0 (fn 1 (pr aq (.int 20))))) (fn 1 (pr aq (.int 20))))),(fn 28 (pr (pr (var 19) (fn 0 (fn 1 (pr aq (.int 21))))) (fn 1 (pr aq (.int 21))))),(fn 28 (pr (pr (var 20) (fn 0 (fn 1 (pr aq (.int 22))))) (fn 1 (pr aq (.int 22))))),(fn 28 (pr (pr (var 21) (fn 0 (fn 1 (pr aq (.int 23))))) (fn 1 (pr aq (.int 23))))),(fn 1 (pr aq (.int 24))),(fn 1 (pr aq (.int 25))),(fn 1 (pr aq (.int 26))),(fn 1 (pr aq (.int 27))),(fn 1 (pr aq (.int 28))),hJ,gS,(fn 28 (pr (pr (var 22) (fn 0 (fn 1 (pr aq (.int 31))))) (fn 1 (pr aq (.int 31))))),(fn 28 (pr (pr (var 23) (fn 9 (pr (fn 1 (pr aq (.int 32))) (.int 2)))) (fn 1 (pr aq (.int 32))))),(fn 1 (pr aq (.int 33))),(fn 1 (pr aq (.int 34))),(fn 1 (pr aq (.int 35))),(fn 1 (pr aq (.int 36))),(fn 1 (pr aq (.int 37)))]) aq))<|bl fun ρ p0 p1 p2 p3 p4=>by
 have h1:=@aIY ρ aq ([(fn 1 (pr aq (.int 0))),(fn 1 (pr aq (.int 1))),(fn 1 (pr aq (.int 2))),(fn 1 (pr aq (.int 3))),(fn 1 (pr aq (.int 4))),(fn 1 (pr aq (.int 5))),(fn 28 (pr (pr (var 14) (fn 0 (fn 1 (pr aq (.int 6))))) (fn 1 (pr aq (.int 6))))),(fn 28 (pr (pr (var 15) (fn 0 (fn 1 (pr aq (.int 7))))) (fn 1 (pr aq (.int 7))))),(fn 28 (pr (pr cI (fn 0 (fn 1 (pr aq (.int 8))))) (fn 1 (pr aq (.int 8))))),(fn 28 (pr (pr (var 17) (fn 0 (fn 1 (pr aq (.int 9))))) (fn 1 (pr aq (.int 9))))),(fn 1 (pr aq (.int 10))),(fn 1 (pr aq (.int 11))),(fn 1 (pr aq (.int 12))),(fn 1 (pr aq (.int 13))),(fn 1 (pr aq (.int 14))),(fn 1 (pr aq (.int 15))),(fn 1 (pr aq (.int 16))),(fn 1 (pr aq (.int 17))),(fn 1 (pr aq (.int 18))),(fn 1 (pr aq (.int 19))),(fn 28 (pr (pr (var 18) (fn 0 (fn 1 (pr aq (.int 20))))) (fn 1 (pr aq (.int 20))))),(fn 28 (pr (pr (var 19) (fn 0 (fn 1 (pr aq (.int 21))))) (fn 1 (pr aq (.int 21))))),(fn 28 (pr (pr (var 20) (fn 0 (fn 1 (pr aq (.int 22))))) (fn 1 (pr aq (.int 22))))),(fn 28 (pr (pr (var 21) (fn 0 (fn 1 (pr aq (.int 23))))) (fn 1 (pr aq (.int 23))))),(fn 1 (pr aq (.int 24))),(fn 1 (pr aq (.int 25))),(fn 1 (pr aq (.int 26))),(fn 1 (pr aq (.int 27))),(fn 1 (pr aq (.int 28))),hJ,gS,(fn 28 (pr (pr (var 22) (fn 0 (fn 1 (pr aq (.int 31))))) (fn 1 (pr aq (.int 31))))),(fn 28 (pr (pr (var 23) (fn 9 (pr (fn 1 (pr aq (.int 32))) (.int 2)))) (fn 1 (pr aq (.int 32))))),(fn 1 (pr aq (.int 33))),(fn 1 (pr aq (.int 34))),(fn 1 (pr aq (.int 35))),(fn 1 (pr aq (.int 36))),(fn 1 (pr aq (.int 37)))]) rfl;exact h1 (aCL (eY 1 rfl rfl (eY 2 rfl rfl (eY 3 rfl rfl (eY 4 rfl rfl (eY 5 rfl rfl (mE 6 rfl rfl (by decide) p0 nl np (mE 7 rfl rfl (by decide) p0 nl np (mE 8 rfl rfl (by decide) p0 nl np (mE 9 rfl rfl (by decide) p0 nl np (eY 10 rfl rfl (eY 11 rfl rfl (eY 12 rfl rfl (eY 13 rfl rfl (eY 14 rfl rfl (eY 15 rfl rfl (eY 16 rfl rfl (eY 17 rfl rfl (eY 18 rfl rfl (eY 19 rfl rfl (mE 20 rfl rfl (by decide) p0 nl np (mE 21 rfl rfl (by decide) p0 nl np (mE 22 rfl rfl (by decide) p0 nl np (mE 23 rfl rfl (by decide) p0 nl np (eY 24 rfl rfl (eY 25 rfl rfl (eY 26 rfl rfl (eY 27 rfl rfl (eY 28 rfl rfl (Zm 29 rfl rfl p2 p1 (Zm 30 rfl rfl p4 p3 (mE 31 rfl rfl (by decide) p0 nl np (mE 32 rfl rfl (by decide) p0 nl np (eY 33 rfl rfl (eY 34 rfl rfl (eY 35 rfl rfl (eY 36 rfl rfl (eY 37 rfl rfl trivial))))))))))))))))))))))))))))))))))))))
def arD:=fa ((fn 200 (pr (fn 1 (pr aq (.int 0))) (fn 1 (pr aq (.int 0))))))<|fun ρ=>by
 exact afx
def p57:List Fa:=[ey,Hm,Hn,Ho,Hp,Hq,Hr,Hs,Ht,Hu,ny,wH,AK,tB,wI,AL,Hv,Hw,arC,arD]
theorem aHK:aV Tryz.prog (bz (aGS)):=sc p57 ([]) EJ (aET) (by kernel_rfl) (by kernel_rfl)
def acR:Nl:=nc aHK aEU
def arE:=fb [k9,HF] Qu<|au fun ρ p0 p1=>by
 have hv:=fE.2 p0
 have:=jC hv
 obtain⟨w,ew,qw⟩:=ab (1-E.I ρ (fn 1 (pr aw (.int 34))))
 simp only[aa,ae,ew]at *;omega
def arF:=fb [k9,AP,Qv] HG<|ay fun ρ p0 p1 p2=>by
 have hv:=fE.2 p0
 have:=jC hv
 obtain⟨w,ew,qw⟩:=ab (1-E.I ρ (fn 1 (pr aw (.int 34))))
 simp only[aa,ae,ew]at *;omega
def arG:=fb [k9,AP] Qv<|au fun ρ p0 p1=>by
 have hv:=fE.2 p0
 have:=jC hv
 obtain⟨w,ew,qw⟩:=ab (1-E.I ρ (fn 1 (pr aw (.int 34))))
 simp only[aa,ae,ew]at *;omega
def arH:=fb [HF,pf,k9] (cmp .eql (fn 1 (pr aj (.int 1))) (fn 254 (pr aq (pr aw (.int 0)))))<|ay fun ρ p0 p1 p2=>by
 have hv:=fE.2 p2
 have:=jC hv
 have h1:E.I ρ (fn 1 (pr aw (.int 34)))=1:=by
  obtain⟨w,ew,qw⟩:=ab (1-E.I ρ (fn 1 (pr aw (.int 34))))
  simp only[aa,ae,ew]at *;omega
 have u:=@wh _ _ _ 1 p1 (by decide) (by decide);have u:E.I ρ (fn 1 (pr aj (.int 1)))=E.I ρ (fn 1 (pr aw (.int 1))):=u
 have:=@afA _ _ aq h1
 simp only[aa];omega
def arJ:=fb [k9,AP] HG<|au fun ρ p0 p1=>by
 have hv:=fE.2 p0
 have:=jC hv
 obtain⟨w,ew,qw⟩:=ab (1-E.I ρ (fn 1 (pr aw (.int 34))))
 simp only[aa,ae,ew]at *;omega
def arL:=fb AQ (.not (cmp .lss (fn 1 (pr aj (.int 1))) (.int 0)))<|au fun ρ p0 p1=>by
 have hv:=fE.2 p0
 have:=kM hv
 have u:=@wh _ _ _ 1 p1 (by decide) (by decide);have u:E.I ρ (fn 1 (pr aj (.int 1)))=E.I ρ (fn 1 (pr aw (.int 1))):=u;simp only[aa];omega
def arM:=fb [AP,pf,k9] (cmp .eql (fn 1 (pr aj (.int 15))) (fn 254 (pr aq (pr aw (.int 0)))))<|ay fun ρ p0 p1 p2=>by
 have hv:=fE.2 p2
 have:=jC hv
 have h1:E.I ρ (fn 1 (pr aw (.int 34)))=0:=by
  obtain⟨w,ew,qw⟩:=ab (1-E.I ρ (fn 1 (pr aw (.int 34))))
  simp only[aa,ae,ew]at *;omega
 have u:=@wh _ _ _ 15 p1 (by decide) (by decide);have u:E.I ρ (fn 1 (pr aj (.int 15)))=E.I ρ (fn 1 (pr aw (.int 15))):=u
 have:=@afz _ _ aq h1
 simp only[aa];omega
def arN:=fb AQ (.not (cmp .lss (.int 9999) (fn 1 (pr aj (.int 1)))))<|au fun ρ p0 p1=>by
 have hv:=fE.2 p0
 have:=kM hv
 have u:=@wh _ _ _ 1 p1 (by decide) (by decide);have u:E.I ρ (fn 1 (pr aj (.int 1)))=E.I ρ (fn 1 (pr aw (.int 1))):=u;simp only[aa];omega
def arO:=fb AQ (.not (cmp .lss (fn 1 (pr aj (.int 15))) (.int 0)))<|au fun ρ p0 p1=>by
 have hv:=fE.2 p0
 have:=kM hv
 have u:=@wh _ _ _ 15 p1 (by decide) (by decide);have u:E.I ρ (fn 1 (pr aj (.int 15)))=E.I ρ (fn 1 (pr aw (.int 15))):=u;simp only[aa];omega
def arP:=fb [(fn 200 (pr (var 5) (fn 1 (pr aw (.int 0)))))] (fn 257 (pr (var 5) (pr aq (pr aw (.int 0)))))<|ak fun ρ p0=>by
 exact aJl p0
def arQ:=fb AQ (.not (cmp .lss (.int 9999) (fn 1 (pr aj (.int 15)))))<|au fun ρ p0 p1=>by
 have hv:=fE.2 p0
 have:=kM hv
 have u:=@wh _ _ _ 15 p1 (by decide) (by decide);have u:E.I ρ (fn 1 (pr aj (.int 15)))=E.I ρ (fn 1 (pr aw (.int 15))):=u;simp only[aa];omega
def arR:=fb [k9] (fn 115 aw)<|ak fun ρ p0=>by
 have hv:=fE.2 p0;exact hv
def arS:=fb [HH,wO,wP,HI,pf,Qu] (fn 259 (pr (cU [(fn 28 (pr (pr bE iJ) lg)),cQ,(fn 1 (pr aj (.int 2))),(fn 1 (pr aj (.int 3))),(fn 1 (pr aj (.int 4))),(fn 1 (pr aj (.int 5))),(fn 1 (pr aj (.int 6))),(fn 1 (pr aj (.int 7))),(fn 1 (pr aj (.int 8))),(fn 1 (pr aj (.int 9))),(fn 1 (pr aj (.int 10))),(fn 1 (pr aj (.int 11))),(fn 1 (pr aj (.int 12))),(fn 1 (pr aj (.int 13))),(fn 1 (pr aj (.int 14))),(fn 1 (pr aj (.int 15))),(fn 1 (pr aj (.int 16))),(fn 1 (pr aj (.int 17))),(fn 1 (pr aj (.int 18))),(fn 1 (pr aj (.int 19))),(fn 1 (pr aj (.int 20))),(fn 1 (pr aj (.int 21))),(fn 1 (pr aj (.int 22))),(fn 1 (pr aj (.int 23))),(fn 1 (pr aj (.int 24))),(fn 1 (pr aj (.int 25))),(fn 1 (pr aj (.int 26))),(fn 1 (pr aj (.int 27))),(fn 1 (pr aj (.int 28))),(fn 1 (pr aj (.int 29))),(fn 1 (pr aj (.int 30))),(fn 30 (.int 0)),(fn 30 (.int 0)),(fn 1 (pr aj (.int 33))),(fn 1 (pr aj (.int 34))),(fn 1 (pr aj (.int 35))),(fn 1 (pr aj (.int 36))),(fn 1 (pr aj (.int 37)))]) (pr aq aw)))<|cz fun ρ p0 p1 p2 p3 p4 p5=>by
 have ha:E.I ρ (fn 1 (pr aw (.int 34)))=1:=by
  rw[cV]at p5;exact p5
 have hi:E.I ρ (fn 0 (fn 1 (pr aw (.int 31))))=E.I ρ aQ:=by
  simp only[aa]at *;omega
 refine @afF _ _ cQ _ _ _ (pr bE iJ) 0 (by rw[JL ha]) p4 ?_ (Gp p1 hi)
 rw[NN hi,<- cV]
 exact p2
def arT:=fb [HH,wO,wP,HI,HG,pf] (fn 259 (pr (cU [(fn 28 (pr (pr bE iJ) lg)),(fn 1 (pr aj (.int 1))),(fn 1 (pr aj (.int 2))),(fn 1 (pr aj (.int 3))),(fn 1 (pr aj (.int 4))),(fn 1 (pr aj (.int 5))),(fn 1 (pr aj (.int 6))),(fn 1 (pr aj (.int 7))),(fn 1 (pr aj (.int 8))),(fn 1 (pr aj (.int 9))),(fn 1 (pr aj (.int 10))),(fn 1 (pr aj (.int 11))),(fn 1 (pr aj (.int 12))),(fn 1 (pr aj (.int 13))),(fn 1 (pr aj (.int 14))),cQ,(fn 1 (pr aj (.int 16))),(fn 1 (pr aj (.int 17))),(fn 1 (pr aj (.int 18))),(fn 1 (pr aj (.int 19))),(fn 1 (pr aj (.int 20))),(fn 1 (pr aj (.int 21))),(fn 1 (pr aj (.int 22))),(fn 1 (pr aj (.int 23))),(fn 1 (pr aj (.int 24))),(fn 1 (pr aj (.int 25))),(fn 1 (pr aj (.int 26))),(fn 1 (pr aj (.int 27))),(fn 1 (pr aj (.int 28))),(fn 1 (pr aj (.int 29))),(fn 1 (pr aj (.int 30))),(fn 30 (.int 0)),(fn 30 (.int 0)),(fn 1 (pr aj (.int 33))),(fn 1 (pr aj (.int 34))),(fn 1 (pr aj (.int 35))),(fn 1 (pr aj (.int 36))),(fn 1 (pr aj (.int 37)))]) (pr aq aw)))<|cz fun ρ p0 p1 p2 p3 p4 p5=>by
 have ha:E.I ρ (fn 1 (pr aw (.int 34)))=0:=by
  rw[cV]at p4;exact p4
 have hi:E.I ρ (fn 0 (fn 1 (pr aw (.int 31))))=E.I ρ aQ:=by
  simp only[aa]at *;omega
 refine @afF _ _ cQ _ _ _ (pr bE iJ) 1 (by rw[JM ha]) p5 ?_ (Gp p1 hi)
 rw[NN hi,<- cV]
 exact p2
def arU:=fb [nC,AR,nz,k9] (.not (cmp .lss bE (.int 0)))<|aF fun ρ p0 p1 p2 p3=>by
 have hv:=fE.2 p3;have h0:0<=E.I ρ aQ:=by
  simp only[aa]at *;omega
 have hq:E.I ρ bE=E.I ρ (fn 120 (pr aw (pr (fn 1 (pr (fn 1 (pr aw (.int 31))) aQ)) (fn 9 (pr (fn 1 (pr aw (.int 0))) (.int 12)))))):=by
  rw[<- cV];exact p1
 have:=JZ hv h0 (by
  simp only[aa]at *;omega)
 simp only[aa];omega
def arV:=fb [wQ,wR,HK,k9] (.not (cmp .lss gS (.int 0)))<|aF fun ρ p0 p1 p2 p3=>by
 have hv:=fE.2 p3;have hq:E.I ρ gS=E.I ρ (fn 120 (pr aw (pr hJ (fn 9 (pr (fn 1 (pr aw (.int 0))) (.int 12)))))):=by
  rw[<- cV];exact p2
 have eb:E.I ρ hJ=E.I ρ (fn 258 (pr aw (fn 1 (pr (fn 1 (pr aw (.int 31))) aQ)))):=by
  rw[<- cV];exact p0
 have g:¬E.I ρ (fn 258 (pr aw (fn 1 (pr (fn 1 (pr aw (.int 31))) aQ))))=0:=by
  rw[<- eb]
  simp only[aa]at p1;omega
 have hf:=afE hv g
 rw[<- eb]at hf
 have hf:0<=E.I ρ (fn 120 (pr aw (pr hJ (fn 9 (pr (fn 1 (pr aw (.int 0))) (.int 12)))))):=hf;simp only[aa];omega
def arW:=fb [pf,(fn 116 aw)] (fn 116 (cU [(fn 28 (pr (pr bE iJ) lg)),cQ,(fn 1 (pr aj (.int 2))),(fn 1 (pr aj (.int 3))),(fn 1 (pr aj (.int 4))),(fn 1 (pr aj (.int 5))),(fn 1 (pr aj (.int 6))),(fn 1 (pr aj (.int 7))),(fn 1 (pr aj (.int 8))),(fn 1 (pr aj (.int 9))),(fn 1 (pr aj (.int 10))),(fn 1 (pr aj (.int 11))),(fn 1 (pr aj (.int 12))),(fn 1 (pr aj (.int 13))),(fn 1 (pr aj (.int 14))),(fn 1 (pr aj (.int 15))),(fn 1 (pr aj (.int 16))),(fn 1 (pr aj (.int 17))),(fn 1 (pr aj (.int 18))),(fn 1 (pr aj (.int 19))),(fn 1 (pr aj (.int 20))),(fn 1 (pr aj (.int 21))),(fn 1 (pr aj (.int 22))),(fn 1 (pr aj (.int 23))),(fn 1 (pr aj (.int 24))),(fn 1 (pr aj (.int 25))),(fn 1 (pr aj (.int 26))),(fn 1 (pr aj (.int 27))),(fn 1 (pr aj (.int 28))),(fn 1 (pr aj (.int 29))),(fn 1 (pr aj (.int 30))),(fn 30 (.int 0)),(fn 30 (.int 0)),(fn 1 (pr aj (.int 33))),(fn 1 (pr aj (.int 34))),(fn 1 (pr aj (.int 35))),(fn 1 (pr aj (.int 36))),(fn 1 (pr aj (.int 37)))]))<|au fun ρ p0 p1=>by
 exact @afg _ (pr (pr bE iJ) lg) cQ _ _ 0 (by decide) p0 p1
def arX:=fb [pf,(fn 116 aw)] (fn 116 (cU [(fn 28 (pr (pr bE iJ) lg)),(fn 1 (pr aj (.int 1))),(fn 1 (pr aj (.int 2))),(fn 1 (pr aj (.int 3))),(fn 1 (pr aj (.int 4))),(fn 1 (pr aj (.int 5))),(fn 1 (pr aj (.int 6))),(fn 1 (pr aj (.int 7))),(fn 1 (pr aj (.int 8))),(fn 1 (pr aj (.int 9))),(fn 1 (pr aj (.int 10))),(fn 1 (pr aj (.int 11))),(fn 1 (pr aj (.int 12))),(fn 1 (pr aj (.int 13))),(fn 1 (pr aj (.int 14))),cQ,(fn 1 (pr aj (.int 16))),(fn 1 (pr aj (.int 17))),(fn 1 (pr aj (.int 18))),(fn 1 (pr aj (.int 19))),(fn 1 (pr aj (.int 20))),(fn 1 (pr aj (.int 21))),(fn 1 (pr aj (.int 22))),(fn 1 (pr aj (.int 23))),(fn 1 (pr aj (.int 24))),(fn 1 (pr aj (.int 25))),(fn 1 (pr aj (.int 26))),(fn 1 (pr aj (.int 27))),(fn 1 (pr aj (.int 28))),(fn 1 (pr aj (.int 29))),(fn 1 (pr aj (.int 30))),(fn 30 (.int 0)),(fn 30 (.int 0)),(fn 1 (pr aj (.int 33))),(fn 1 (pr aj (.int 34))),(fn 1 (pr aj (.int 35))),(fn 1 (pr aj (.int 36))),(fn 1 (pr aj (.int 37)))]))<|au fun ρ p0 p1=>by
 exact @afg _ (pr (pr bE iJ) lg) cQ _ _ 1 (by decide) p0 p1
def arY:=fb ((cmp .lss gS (fn 9 (pr (fn 1 (pr aw (.int 0))) (.int 12))))::HK::Qy) (cmp .lss gS iJ)<|ay fun ρ p0 p1 p2=>by
 simp only[aa]at *;omega
def arZ:=fb AS Qr<|ay fun ρ p0 p1 p2=>by
 have:=ao p0
 have:=@dV ρ (fn 1 (pr aw (.int 31)))
 obtain⟨w0,ew0,qw0⟩:=ab (E.I ρ aQ+1)
 simp only[aa,ae,ew0]at *;omega
def ar0:=fb QA (fn 117 (cU [(fn 28 (pr (pr bE iJ) lg)),cQ,(fn 1 (pr aj (.int 2))),(fn 1 (pr aj (.int 3))),(fn 1 (pr aj (.int 4))),(fn 1 (pr aj (.int 5))),(fn 1 (pr aj (.int 6))),(fn 1 (pr aj (.int 7))),(fn 1 (pr aj (.int 8))),(fn 1 (pr aj (.int 9))),(fn 1 (pr aj (.int 10))),(fn 1 (pr aj (.int 11))),(fn 1 (pr aj (.int 12))),(fn 1 (pr aj (.int 13))),(fn 1 (pr aj (.int 14))),(fn 1 (pr aj (.int 15))),(fn 1 (pr aj (.int 16))),(fn 1 (pr aj (.int 17))),(fn 1 (pr aj (.int 18))),(fn 1 (pr aj (.int 19))),(fn 1 (pr aj (.int 20))),(fn 1 (pr aj (.int 21))),(fn 1 (pr aj (.int 22))),(fn 1 (pr aj (.int 23))),(fn 1 (pr aj (.int 24))),(fn 1 (pr aj (.int 25))),(fn 1 (pr aj (.int 26))),(fn 1 (pr aj (.int 27))),(fn 1 (pr aj (.int 28))),(fn 1 (pr aj (.int 29))),(fn 1 (pr aj (.int 30))),(fn 30 (.int 0)),(fn 30 (.int 0)),(fn 1 (pr aj (.int 33))),(fn 1 (pr aj (.int 34))),(fn 1 (pr aj (.int 35))),(fn 1 (pr aj (.int 36))),(fn 1 (pr aj (.int 37)))]))<|cz fun ρ p0 p1 p2 p3 p4 p5=>by
 have hv:=fE.2 p4;have hi:E.I ρ (fn 0 (fn 1 (pr aw (.int 31))))=E.I ρ aQ:=by
  simp only[aa]at *;omega
 exact @afh _ _ cQ _ _ _ (pr bE iJ) 0 (by decide) p3 hv p5 (Gp p1 hi)
def ar1:=fb QA (fn 117 (cU [(fn 28 (pr (pr bE iJ) lg)),(fn 1 (pr aj (.int 1))),(fn 1 (pr aj (.int 2))),(fn 1 (pr aj (.int 3))),(fn 1 (pr aj (.int 4))),(fn 1 (pr aj (.int 5))),(fn 1 (pr aj (.int 6))),(fn 1 (pr aj (.int 7))),(fn 1 (pr aj (.int 8))),(fn 1 (pr aj (.int 9))),(fn 1 (pr aj (.int 10))),(fn 1 (pr aj (.int 11))),(fn 1 (pr aj (.int 12))),(fn 1 (pr aj (.int 13))),(fn 1 (pr aj (.int 14))),cQ,(fn 1 (pr aj (.int 16))),(fn 1 (pr aj (.int 17))),(fn 1 (pr aj (.int 18))),(fn 1 (pr aj (.int 19))),(fn 1 (pr aj (.int 20))),(fn 1 (pr aj (.int 21))),(fn 1 (pr aj (.int 22))),(fn 1 (pr aj (.int 23))),(fn 1 (pr aj (.int 24))),(fn 1 (pr aj (.int 25))),(fn 1 (pr aj (.int 26))),(fn 1 (pr aj (.int 27))),(fn 1 (pr aj (.int 28))),(fn 1 (pr aj (.int 29))),(fn 1 (pr aj (.int 30))),(fn 30 (.int 0)),(fn 30 (.int 0)),(fn 1 (pr aj (.int 33))),(fn 1 (pr aj (.int 34))),(fn 1 (pr aj (.int 35))),(fn 1 (pr aj (.int 36))),(fn 1 (pr aj (.int 37)))]))<|cz fun ρ p0 p1 p2 p3 p4 p5=>by
 have hv:=fE.2 p4;have hi:E.I ρ (fn 0 (fn 1 (pr aw (.int 31))))=E.I ρ aQ:=by
  simp only[aa]at *;omega
 exact @afh _ _ cQ _ _ _ (pr bE iJ) 1 (by decide) p3 hv p5 (Gp p1 hi)
def ar2:=fb ((cmp .lss bE (fn 9 (pr (fn 1 (pr aw (.int 0))) (.int 12))))::AR::Qy) (cmp .lss bE iJ)<|ay fun ρ p0 p1 p2=>by
 simp only[aa]at *;omega
def ar3:=fb AS (.not (cmp .lss (fn 0 (fn 1 (pr aw (.int 31)))) (.ar .add .i64 aQ (.int 1))))<|ay fun ρ p0 p1 p2=>by
 have:=ao p0
 have:=@dV ρ (fn 1 (pr aw (.int 31)))
 obtain⟨w0,ew0,qw0⟩:=ab (E.I ρ aQ+1)
 simp only[aa,ae,ew0]at *;omega
def ar4:=fb (nC::AR::wQ::HJ::wP::HL) (cmp .eql (.mx (.int 0) (.ar .sub .i64 cQ (fn 251 (pr aq (pr (fn 1 (pr (fn 1 (pr aw (.int 0))) (fn 6 (pr (fn 8 (pr bE (.int 12))) (.int 1))))) (pr (fn 1 (pr (fn 1 (pr aw (.int 0))) (fn 6 (pr (fn 8 (pr bE (.int 12))) (.int 3))))) (pr (fn 1 (pr (fn 1 (pr aw (.int 0))) (fn 6 (pr (fn 8 (pr bE (.int 12))) (.int 6))))) (fn 1 (pr (fn 1 (pr aw (.int 0))) (fn 6 (pr (fn 8 (pr bE (.int 12))) (.int 7)))))))))))) (fn 254 (pr aq (pr aw (.ar .add .i64 aQ (.int 1))))))<|dO fun ρ p0 p1 p2 p3 p4 p5 p6 p7=>by
 have hv:=fE.2 p6;have hn:E.I ρ (.ar .add .i64 aQ (.int 1))=E.I ρ aQ+1:=by
  have:=ao p7
  have:=@dV ρ (fn 1 (pr aw (.int 31)))
  obtain⟨w,ew,qw⟩:=ab (E.I ρ aQ+1)
  simp only[aa,ae,ew]at *;omega
 have h0:0<=E.I ρ aQ:=by
  simp only[aa]at *;omega
 have eb:E.I ρ hJ=E.I ρ (fn 258 (pr aw (fn 1 (pr (fn 1 (pr aw (.int 31))) aQ)))):=by
  rw[<- cV];exact p2
 have g:E.I ρ (fn 258 (pr aw (fn 1 (pr (fn 1 (pr aw (.int 31))) aQ))))=0:=by
  rw[<- eb]
  simp only[aa]at p3;omega
 have hq:E.I ρ bE=E.I ρ (fn 120 (pr aw (pr (fn 1 (pr (fn 1 (pr aw (.int 31))) aQ)) (fn 9 (pr (fn 1 (pr aw (.int 0))) (.int 12)))))):=by
  rw[<- cV];exact p1
 have hf:=JZ hv h0 (by
  simp only[aa]at *;omega)
 have hq0:0<=E.I ρ bE:=by rw[hq];exact hf
 have u:E.I ρ (fn 254 (pr aq (pr aw (.ar .add .i64 aQ (.int 1)))))=max 0 (E.I ρ (fn 254 (pr aq (pr aw aQ)))-E.I ρ (fn 251 (pr aq (pr (fn 1 (pr (fn 1 (pr aw (.int 0))) (fn 6 (pr (fn 8 (pr bE (.int 12))) (.int 1))))) (pr (fn 1 (pr (fn 1 (pr aw (.int 0))) (fn 6 (pr (fn 8 (pr bE (.int 12))) (.int 3))))) (pr (fn 1 (pr (fn 1 (pr aw (.int 0))) (fn 6 (pr (fn 8 (pr bE (.int 12))) (.int 6))))) (fn 1 (pr (fn 1 (pr aw (.int 0))) (fn 6 (pr (fn 8 (pr bE (.int 12))) (.int 7))))))))))):=aJe hv h0 g hn hq hq0;have e7:E.I ρ cQ=E.I ρ (fn 254 (pr aq (pr aw aQ))):=by
  rw[<- cV];exact p4
 have:=@Ae ρ (pr aq (pr (fn 1 (pr (fn 1 (pr aw (.int 0))) (fn 6 (pr (fn 8 (pr bE (.int 12))) (.int 1))))) (pr (fn 1 (pr (fn 1 (pr aw (.int 0))) (fn 6 (pr (fn 8 (pr bE (.int 12))) (.int 3))))) (pr (fn 1 (pr (fn 1 (pr aw (.int 0))) (fn 6 (pr (fn 8 (pr bE (.int 12))) (.int 6))))) (fn 1 (pr (fn 1 (pr aw (.int 0))) (fn 6 (pr (fn 8 (pr bE (.int 12))) (.int 7)))))))))
 have:=@aJf _ aQ _ aq hv
 obtain⟨w,ew,qw⟩:=ab (E.I ρ cQ-E.I ρ (fn 251 (pr aq (pr (fn 1 (pr (fn 1 (pr aw (.int 0))) (fn 6 (pr (fn 8 (pr bE (.int 12))) (.int 1))))) (pr (fn 1 (pr (fn 1 (pr aw (.int 0))) (fn 6 (pr (fn 8 (pr bE (.int 12))) (.int 3))))) (pr (fn 1 (pr (fn 1 (pr aw (.int 0))) (fn 6 (pr (fn 8 (pr bE (.int 12))) (.int 6))))) (fn 1 (pr (fn 1 (pr aw (.int 0))) (fn 6 (pr (fn 8 (pr bE (.int 12))) (.int 7)))))))))))
 simp only[aa,ae,ew];omega
def ar5:=fa ((.not (cmp .lss (.mx (.int 0) (.ar .sub .i64 cQ (fn 251 (pr aq (pr (fn 1 (pr (fn 1 (pr aw (.int 0))) (fn 6 (pr (fn 8 (pr bE (.int 12))) (.int 1))))) (pr (fn 1 (pr (fn 1 (pr aw (.int 0))) (fn 6 (pr (fn 8 (pr bE (.int 12))) (.int 3))))) (pr (fn 1 (pr (fn 1 (pr aw (.int 0))) (fn 6 (pr (fn 8 (pr bE (.int 12))) (.int 6))))) (fn 1 (pr (fn 1 (pr aw (.int 0))) (fn 6 (pr (fn 8 (pr bE (.int 12))) (.int 7)))))))))))) (.int 0))))<|fun ρ=>by
 obtain⟨w,ew,qw⟩:=ab (E.I ρ cQ-E.I ρ (fn 251 (pr aq (pr (fn 1 (pr (fn 1 (pr aw (.int 0))) (fn 6 (pr (fn 8 (pr bE (.int 12))) (.int 1))))) (pr (fn 1 (pr (fn 1 (pr aw (.int 0))) (fn 6 (pr (fn 8 (pr bE (.int 12))) (.int 3))))) (pr (fn 1 (pr (fn 1 (pr aw (.int 0))) (fn 6 (pr (fn 8 (pr bE (.int 12))) (.int 6))))) (fn 1 (pr (fn 1 (pr aw (.int 0))) (fn 6 (pr (fn 8 (pr bE (.int 12))) (.int 7)))))))))))
 simp only[aa,ae,ew]at *;omega
def ar6:=fb (nC::wQ::wR::wP::HL) (cmp .eql cQ (fn 254 (pr aq (pr aw (.ar .add .i64 aQ (.int 1))))))<|eZ fun ρ p0 p1 p2 p3 p4 p5 p6=>by
 have hv:=fE.2 p5;have hn:E.I ρ (.ar .add .i64 aQ (.int 1))=E.I ρ aQ+1:=by
  have:=ao p6
  have:=@dV ρ (fn 1 (pr aw (.int 31)))
  obtain⟨w,ew,qw⟩:=ab (E.I ρ aQ+1)
  simp only[aa,ae,ew]at *;omega
 have h0:0<=E.I ρ aQ:=by
  simp only[aa]at *;omega
 have eb:E.I ρ hJ=E.I ρ (fn 258 (pr aw (fn 1 (pr (fn 1 (pr aw (.int 31))) aQ)))):=by
  rw[<- cV];exact p1
 have g:¬E.I ρ (fn 258 (pr aw (fn 1 (pr (fn 1 (pr aw (.int 31))) aQ))))=0:=by
  rw[<- eb]
  simp only[aa]at p2;omega
 have u:=aJd (C:=var 0) hv h0 g hn
 rw[cV,u,<- cV]
 exact p3
def ar7:=fb [(.not (cmp .lss (.int 9999) cQ)),(.not (cmp .lss cQ (.int 0))),wP] (.not (cmp .lss (.int 9999) (.mx (.int 0) (.ar .sub .i64 cQ (fn 251 (pr aq (pr (fn 1 (pr (fn 1 (pr aw (.int 0))) (fn 6 (pr (fn 8 (pr bE (.int 12))) (.int 1))))) (pr (fn 1 (pr (fn 1 (pr aw (.int 0))) (fn 6 (pr (fn 8 (pr bE (.int 12))) (.int 3))))) (pr (fn 1 (pr (fn 1 (pr aw (.int 0))) (fn 6 (pr (fn 8 (pr bE (.int 12))) (.int 6))))) (fn 1 (pr (fn 1 (pr aw (.int 0))) (fn 6 (pr (fn 8 (pr bE (.int 12))) (.int 7))))))))))))))<|ay fun ρ p0 p1 p2=>by
 have:=@Ae ρ (pr aq (pr (fn 1 (pr (fn 1 (pr aw (.int 0))) (fn 6 (pr (fn 8 (pr bE (.int 12))) (.int 1))))) (pr (fn 1 (pr (fn 1 (pr aw (.int 0))) (fn 6 (pr (fn 8 (pr bE (.int 12))) (.int 3))))) (pr (fn 1 (pr (fn 1 (pr aw (.int 0))) (fn 6 (pr (fn 8 (pr bE (.int 12))) (.int 6))))) (fn 1 (pr (fn 1 (pr aw (.int 0))) (fn 6 (pr (fn 8 (pr bE (.int 12))) (.int 7)))))))))
 obtain⟨w,ew,qw⟩:=ab (E.I ρ cQ-E.I ρ (fn 251 (pr aq (pr (fn 1 (pr (fn 1 (pr aw (.int 0))) (fn 6 (pr (fn 8 (pr bE (.int 12))) (.int 1))))) (pr (fn 1 (pr (fn 1 (pr aw (.int 0))) (fn 6 (pr (fn 8 (pr bE (.int 12))) (.int 3))))) (pr (fn 1 (pr (fn 1 (pr aw (.int 0))) (fn 6 (pr (fn 8 (pr bE (.int 12))) (.int 6))))) (fn 1 (pr (fn 1 (pr aw (.int 0))) (fn 6 (pr (fn 8 (pr bE (.int 12))) (.int 7)))))))))))
 simp only[aa,ae,ew]at *;omega
def ar8:=fb (nC::AR::wQ::wR::HK::(fn 260 (pr (var 12) (pr lg (pr gS (pr aq (pr (fn 1 (pr (fn 1 (pr aw (.int 0))) (fn 6 (pr (fn 8 (pr bE (.int 12))) (.int 1))))) (pr (fn 1 (pr (fn 1 (pr aw (.int 0))) (fn 6 (pr (fn 8 (pr bE (.int 12))) (.int 3))))) (pr (fn 1 (pr (fn 1 (pr aw (.int 0))) (fn 6 (pr (fn 8 (pr bE (.int 12))) (.int 6))))) (fn 1 (pr (fn 1 (pr aw (.int 0))) (fn 6 (pr (fn 8 (pr bE (.int 12))) (.int 7)))))))))))))::(fn 260 (pr dh (pr (var 12) (pr bE (pr aq (pr (fn 1 (pr (fn 1 (pr aw (.int 0))) (fn 6 (pr (fn 8 (pr gS (.int 12))) (.int 1))))) (pr (fn 1 (pr (fn 1 (pr aw (.int 0))) (fn 6 (pr (fn 8 (pr gS (.int 12))) (.int 3))))) (pr (fn 1 (pr (fn 1 (pr aw (.int 0))) (fn 6 (pr (fn 8 (pr gS (.int 12))) (.int 6))))) (fn 1 (pr (fn 1 (pr aw (.int 0))) (fn 6 (pr (fn 8 (pr gS (.int 12))) (.int 7)))))))))))))::wO::HL) (fn 257 (pr dh (pr aq (pr aw (.ar .add .i64 aQ (.int 1))))))<|kG fun ρ p0 p1 p2 p3 p4 p5 p6 p7 p8 p9 am=>by
 have hv:=fE.2 p9;have hn:E.I ρ (.ar .add .i64 aQ (.int 1))=E.I ρ aQ+1:=by
  have:=ao am
  have:=@dV ρ (fn 1 (pr aw (.int 31)))
  obtain⟨w,ew,qw⟩:=ab (E.I ρ aQ+1)
  simp only[aa,ae,ew]at *;omega
 have h0:0<=E.I ρ aQ:=by
  simp only[aa]at *;omega
 have eb:E.I ρ hJ=E.I ρ (fn 258 (pr aw (fn 1 (pr (fn 1 (pr aw (.int 31))) aQ)))):=by
  rw[<- cV];exact p2
 have g:¬E.I ρ (fn 258 (pr aw (fn 1 (pr (fn 1 (pr aw (.int 31))) aQ))))=0:=by
  rw[<- eb]
  simp only[aa]at p3;omega
 have hP:E.I ρ bE=E.I ρ (fn 120 (pr aw (pr (fn 1 (pr (fn 1 (pr aw (.int 31))) aQ)) (fn 9 (pr (fn 1 (pr aw (.int 0))) (.int 12)))))):=by
  rw[<- cV];exact p1
 have hQ:E.I ρ gS=E.I ρ (fn 120 (pr aw (pr hJ (fn 9 (pr (fn 1 (pr aw (.int 0))) (.int 12)))))):=by
  rw[<- cV];exact p4
 have hf:=JZ hv h0 (by
  simp only[aa]at *;omega)
 have hP0:0<=E.I ρ bE:=by rw[hP];exact hf
 have hQ0:0<=E.I ρ gS:=by
  have u:=afE hv g
  rw[<- eb]at u
  rw[hQ];exact u
 exact @aJj _ _ hJ _ _ _ _ bE gS _ _ p7 h0 hn g hP hP0 eb hQ hQ0 p5 p6
def ar9:=fb [nC,wQ,HJ,wO,nz,wS] (fn 257 (pr lg (pr aq (pr aw (.ar .add .i64 aQ (.int 1))))))<|cz fun ρ p0 p1 p2 p3 p4 p5=>by
 have hn:E.I ρ (.ar .add .i64 aQ (.int 1))=E.I ρ aQ+1:=by
  have:=ao p5
  have:=@dV ρ (fn 1 (pr aw (.int 31)))
  obtain⟨w,ew,qw⟩:=ab (E.I ρ aQ+1)
  simp only[aa,ae,ew]at *;omega
 have h0:0<=E.I ρ aQ:=by
  simp only[aa]at *;omega
 have eb:E.I ρ hJ=E.I ρ (fn 258 (pr aw (fn 1 (pr (fn 1 (pr aw (.int 31))) aQ)))):=by
  rw[<- cV];exact p1
 refine aJk p3 h0 hn ?_
 rw[<- eb]
 simp only[aa]at p2;omega
def asa:=fb [wS,nC,wR,nz] QB<|aF fun ρ p0 p1 p2 p3=>by
 have:=ao p0
 have:=@dV ρ (fn 1 (pr aw (.int 31)))
 obtain⟨w0,ew0,qw0⟩:=ab (E.I ρ aQ+1)
 simp only[aa,ae,ew0]at *;omega
def asb:=fb AS QB<|ay fun ρ p0 p1 p2=>by
 have:=ao p0
 have:=@dV ρ (fn 1 (pr aw (.int 31)))
 obtain⟨w0,ew0,qw0⟩:=ab (E.I ρ aQ+1)
 simp only[aa,ae,ew0]at *;omega
def asc:=fb [wS,nC,wR,nz] QC<|aF fun ρ p0 p1 p2 p3=>by
 have:=ao p0
 have:=@dV ρ (fn 1 (pr aw (.int 31)))
 obtain⟨w0,ew0,qw0⟩:=ab (E.I ρ aQ+1)
 simp only[aa,ae,ew0]at *;omega
def asd:=fb AS QC<|ay fun ρ p0 p1 p2=>by
 have:=ao p0
 have:=@dV ρ (fn 1 (pr aw (.int 31)))
 obtain⟨w0,ew0,qw0⟩:=ab (E.I ρ aQ+1)
 simp only[aa,ae,ew0]at *;omega
def p58:List Fa:=[ey,arE,arF,arG,arH,arJ,arL,arM,arN,arO,arP,arQ,arR,arS,arT,arU,arV,arW,arX,arY,arZ,ar0,ar1,ar2,ar3,ar4,ar5,ar6,ar7,ar8,ar9,asa,asb,asc,asd]
theorem aHL:aV Tryz.prog (bz (aGp)):=sc p58 (aA7) acR (sL) (by kernel_rfl) (by kernel_rfl)
def aEV:Nl:=nc aHL acR
end
end Go.Proofs.YtnggbcblogpnfaaGreat.combatDamages
