/-
  CombatAttacks: contracts of functions, part 15.
-/
import Derived.Test.YtnggbcblogpnfaaGreatCombatAttacksPartn
namespace Go.Proofs.YtnggbcblogpnfaaGreat.combatAttacks
open Go.ChangeShapes Go.WideShapes Go.ChangeAt Go.RowKit
open Go.SX
open Go.SX.E (fn pr cmp var)
set_option linter.unusedVariables false
set_option linter.unusedSimpArgs false
set_option maxRecDepth 100000
noncomputable section
abbrev aS:E:=var 68
abbrev mw:E:=var 29
abbrev Xm:E:=cmp .lss aS mw
abbrev Xq:E:=var 40
abbrev Jw:E:=cmp .eql Xq mw
abbrev Xu:E:=cmp .lss aS Xq
abbrev jT:E:=var 32
abbrev Xz:E:=cmp .lss aS jT
abbrev XD:E:=var 41
abbrev Jy:E:=cmp .eql XD jT
abbrev WN:E:=cmp .lss aS XD
abbrev pY:E:=var 2
abbrev aAf:E:=cmp .lss pY (.int 0)
abbrev aAm:E:=.not aAf
abbrev jS:E:=var 48
abbrev W3:E:=cmp .lss jS pY
abbrev aAB:E:=cmp .lss (.int 40) pY
abbrev aAH:E:=.not aAB
abbrev aAN:E:=cmp .lss jS (.int 0)
abbrev aAU:E:=.not aAN
abbrev Xn:=[aAU]
abbrev aAY:=aAH::Xn
abbrev aAZ:=W3::aAY
abbrev Xo:=aAm::aAZ
abbrev qb:E:=var 5
abbrev aA0:E:=cmp .lss qb (.int 0)
abbrev aA1:E:=.not aA0
abbrev aZ:E:=var 80
abbrev Xp:E:=cmp .lss aZ qb
abbrev aA2:E:=cmp .lss (.int 40) qb
abbrev aA3:E:=.not aA2
abbrev gb:List E:=[(.not (cmp .lss aZ (.int 0)))]
abbrev aA4:=aA3::gb
abbrev aA5:=Xp::aA4
abbrev Xr:=aA1::aA5
abbrev ov:E:=.not (cmp .lss (.ar .add .i64 aZ (.int 1)) (.int 0))
abbrev eN:E:=var 64
abbrev aA6:E:=cmp .lss eN (.int 4)
abbrev aA7:E:=cmp .lss eN (.int 0)
abbrev aA8:E:=.not aA7
abbrev Jx:=[aA8]
abbrev BI:=aA6::Jx
abbrev aA9:E:=cmp .lss (.ar .add .i64 eN (.int 1)) (.int 0)
abbrev Xs:E:=.not aA9
abbrev qc:E:=var 8
abbrev aBa:E:=cmp .lss qc (.int 0)
abbrev aBb:E:=.not aBa
abbrev Xt:E:=cmp .lss aZ qc
abbrev aBc:E:=cmp .lss (.int 40) qc
abbrev aBd:E:=.not aBc
abbrev aBe:=aBd::gb
abbrev aBf:=Xt::aBe
abbrev Xv:=aBb::aBf
abbrev qd:E:=var 11
abbrev aBg:E:=cmp .lss qd (.int 0)
abbrev aBh:E:=.not aBg
abbrev Xw:E:=cmp .lss aZ qd
abbrev aBi:E:=cmp .lss (.int 40) qd
abbrev aBj:E:=.not aBi
abbrev aBk:=aBj::gb
abbrev aBl:=Xw::aBk
abbrev Xx:=aBh::aBl
abbrev qe:E:=var 14
abbrev aBm:E:=cmp .lss qe (.int 0)
abbrev aBn:E:=.not aBm
abbrev Xy:E:=cmp .lss aZ qe
abbrev aBo:E:=cmp .lss (.int 40) qe
abbrev aBp:E:=.not aBo
abbrev aBq:=aBp::gb
abbrev aBr:=Xy::aBq
abbrev XA:=aBn::aBr
abbrev qf:E:=var 17
abbrev aBs:E:=cmp .lss qf (.int 0)
abbrev aBt:E:=.not aBs
abbrev XB:E:=cmp .lss aZ qf
abbrev aBu:E:=cmp .lss (.int 40) qf
abbrev aBv:E:=.not aBu
abbrev aBw:=aBv::gb
abbrev aBx:=XB::aBw
abbrev XC:=aBt::aBx
abbrev qg:E:=var 20
abbrev aBy:E:=cmp .lss qg (.int 0)
abbrev aBz:E:=.not aBy
abbrev XE:E:=cmp .lss aZ qg
abbrev aBA:E:=cmp .lss (.int 40) qg
abbrev aBB:E:=.not aBA
abbrev aBC:=aBB::gb
abbrev aBD:=XE::aBC
abbrev XF:=aBz::aBD
abbrev qh:E:=var 23
abbrev aBE:E:=cmp .lss qh (.int 0)
abbrev aBF:E:=.not aBE
abbrev XG:E:=cmp .lss aZ qh
abbrev aBG:E:=cmp .lss (.int 40) qh
abbrev aBH:E:=.not aBG
abbrev aBI:=aBH::gb
abbrev aBJ:=XG::aBI
abbrev XH:=aBF::aBJ
abbrev qi:E:=var 26
abbrev aBK:E:=cmp .lss qi (.int 0)
abbrev az2:E:=.not aBK
abbrev WO:E:=cmp .lss aZ qi
abbrev az3:E:=cmp .lss (.int 40) qi
abbrev az4:E:=.not az3
abbrev az5:=az4::gb
abbrev az6:=WO::az5
abbrev WP:=az2::az6
abbrev jP:E:=var 50
abbrev az7:E:=cmp .lss jP (.int 2)
abbrev az8:E:=cmp .lss jP (.int 0)
abbrev az9:E:=.not az8
abbrev aAa:=[az9]
abbrev BG:=az7::aAa
abbrev my:E:=.not (cmp .lss aS (.int 0))
abbrev jQ:E:=var 60
abbrev aAb:E:=cmp .lss jQ (.int 0)
abbrev aAc:E:=.not aAb
abbrev aAd:E:=cmp .lss jQ (.int 2)
abbrev aAe:=[aAd]
abbrev BH:=aAc::aAe
abbrev pZ:E:=var 35
abbrev aAg:E:=cmp .lss pZ (.int 0)
abbrev aAh:E:=.not aAg
abbrev WQ:E:=cmp .lss eN pZ
abbrev aAi:E:=cmp .lss (.int 40) pZ
abbrev aAj:E:=.not aAi
abbrev aAk:=aAj::Jx
abbrev aAl:=WQ::aAk
abbrev WR:=aAh::aAl
abbrev qa:E:=var 38
abbrev aAn:E:=cmp .lss qa (.int 0)
abbrev aAo:E:=.not aAn
abbrev jR:E:=var 72
abbrev WS:E:=cmp .lss jR qa
abbrev aAp:E:=cmp .lss (.int 40) qa
abbrev aAq:E:=.not aAp
abbrev aAr:E:=cmp .lss jR (.int 0)
abbrev aAs:E:=.not aAr
abbrev WT:=[aAs]
abbrev aAt:=aAq::WT
abbrev aAu:=WS::aAt
abbrev WU:=aAo::aAu
abbrev WV:=W3::Xn
abbrev WW:=Xp::gb
abbrev WX:=Xt::gb
abbrev WY:=Xw::gb
abbrev WZ:=Xy::gb
abbrev W0:=XB::gb
abbrev W1:=XE::gb
abbrev W2:=XG::gb
abbrev W4:=WO::gb
abbrev dK:E:=var 77
abbrev aAv:E:=pr dK mw
abbrev W5:E:=fn 158 aAv
abbrev bP:E:=var 76
abbrev aAw:E:=cmp .lss mw (.int 0)
abbrev aAx:E:=.not aAw
abbrev aAy:E:=cmp .lss (.int 40) mw
abbrev aAz:E:=.not aAy
abbrev aAA:=[Xu]
abbrev W6:=my::aAA
abbrev aAC:=aAz::W6
abbrev aAD:=aAx::aAC
abbrev Jt:=Jw::aAD
abbrev aAE:E:=cmp .lss (.ar .add .i64 aS (.int 1)) (.int 0)
abbrev W7:E:=.not aAE
abbrev dL:E:=var 78
abbrev aAF:E:=pr dL jT
abbrev W8:E:=fn 158 aAF
abbrev aAG:E:=cmp .lss jT (.int 0)
abbrev aAI:E:=.not aAG
abbrev aAJ:E:=cmp .lss (.int 40) jT
abbrev aAK:E:=.not aAJ
abbrev W9:=[WN,my]
abbrev aAL:=aAK::W9
abbrev aAM:=aAI::aAL
abbrev Ju:=Jy::aAM
abbrev Xa:=WQ::Jx
abbrev Xb:=WS::WT
abbrev Xc:E:=cmp .lss bP (fn 9 (pr (fn 1 (pr dK (fn 6 (pr (fn 8 (pr aS (.int 5))) (.int 4))))) (.int 2)))
abbrev aAO:E:=cmp .lss bP (.int 0)
abbrev Jv:E:=.not aAO
abbrev aAP:=[my,Xm]
abbrev aAQ:=Jv::aAP
abbrev aAR:=Xc::aAQ
abbrev Xd:=W5::aAR
abbrev aAS:E:=cmp .lss (.ar .add .i64 bP (.int 1)) (.int 0)
abbrev Xe:E:=.not aAS
abbrev Xf:E:=cmp .lss bP (fn 9 (pr (fn 1 (pr dL (fn 6 (pr (fn 8 (pr aS (.int 5))) (.int 4))))) (.int 2)))
abbrev aAT:=[Xz,my]
abbrev aAV:=Jv::aAT
abbrev aAW:=Xf::aAV
abbrev Xg:=W8::aAW
abbrev Xh:=[Jv,my]
abbrev Xi:=Xc::Xh
abbrev Xj:E:=cmp .lss (fn 7 (pr (.int 40) (.ar .add .i64 aS (.int 1)))) (fn 7 (pr (.int 40) aS))
abbrev Xk:=Xf::Xh
abbrev aAX:E:=cmp .lss (fn 7 (pr (.int 40) (.ar .add .i64 aS (.int 1)))) (.int 0)
abbrev Xl:E:=.not aAX
def aug:=fb [Xm,Jw] Xu<|ap fun F p0 p1=>by
 simp only[aa]at *;omega
def auh:=fb [Xz,Jy] WN<|ap fun F p0 p1=>by
 simp only[aa]at *;omega
def aui:=fb Xo (.not (cmp .lss (.ar .add .i64 jS (.int 1)) (.int 0)))<|aB fun F p0 p1 p2 p3=>by
 simp only[aa,ae]at *
 obtain⟨a,b,c⟩:=ab (E.I F jS+1)
 omega
def auj:=fb Xr ov<|aB fun F p0 p1 p2 p3=>by
 simp only[aa,ae]at *
 obtain⟨a,b,c⟩:=ab (E.I F aZ+1)
 omega
def auk:=fb BI Xs<|ap fun F p0 p1=>by
 simp only[aa,ae]at *
 obtain⟨a,b,c⟩:=ab (E.I F eN+1)
 omega
def aul:=fb Xv ov<|aB fun F p0 p1 p2 p3=>by
 simp only[aa,ae]at *
 obtain⟨a,b,c⟩:=ab (E.I F aZ+1)
 omega
def aum:=fb Xx ov<|aB fun F p0 p1 p2 p3=>by
 simp only[aa,ae]at *
 obtain⟨a,b,c⟩:=ab (E.I F aZ+1)
 omega
def aun:=fb XA ov<|aB fun F p0 p1 p2 p3=>by
 simp only[aa,ae]at *
 obtain⟨a,b,c⟩:=ab (E.I F aZ+1)
 omega
def auo:=fb XC ov<|aB fun F p0 p1 p2 p3=>by
 simp only[aa,ae]at *
 obtain⟨a,b,c⟩:=ab (E.I F aZ+1)
 omega
def aup:=fb XF ov<|aB fun F p0 p1 p2 p3=>by
 simp only[aa,ae]at *
 obtain⟨a,b,c⟩:=ab (E.I F aZ+1)
 omega
def auq:=fb XH ov<|aB fun F p0 p1 p2 p3=>by
 simp only[aa,ae]at *
 obtain⟨a,b,c⟩:=ab (E.I F aZ+1)
 omega
def aur:=fb WP ov<|aB fun F p0 p1 p2 p3=>by
 simp only[aa,ae]at *
 obtain⟨a,b,c⟩:=ab (E.I F aZ+1)
 omega
def aus:=fb BG (.not (cmp .lss (.ar .add .i64 jP (.int 1)) (.int 0)))<|ap fun F p0 p1=>by
 simp only[aa,ae]at *
 obtain⟨a,b,c⟩:=ab (E.I F jP+1)
 omega
def aut:=fb [my,(fn 158 (pr (var 69) mw))] (fn 158 (pr (fn 2 (pr (var 69) (pr (fn 6 (pr (fn 8 (pr aS (.int 5))) (.int 2))) (.ar .add .i64 (fn 1 (pr (var 69) (fn 6 (pr (fn 8 (pr aS (.int 5))) (.int 2))))) (.int 1))))) mw))<|ap fun F p0 p1=>by
 have h0:0<=E.I F aS:=by simp only[aa]at *;omega
 exact aaI h0 p1
def auu:=fb BH (.not (cmp .lss (.ar .add .i64 jQ (.int 1)) (.int 0)))<|ap fun F p0 p1=>by
 simp only[aa,ae]at *
 obtain⟨a,b,c⟩:=ab (E.I F jQ+1)
 omega
def auv:=fb [my,(fn 158 (pr (var 70) jT))] (fn 158 (pr (fn 2 (pr (var 70) (pr (fn 6 (pr (fn 8 (pr aS (.int 5))) (.int 2))) (.ar .add .i64 (fn 1 (pr (var 70) (fn 6 (pr (fn 8 (pr aS (.int 5))) (.int 2))))) (.int 1))))) jT))<|ap fun F p0 p1=>by
 have h0:0<=E.I F aS:=by simp only[aa]at *;omega
 exact aaI h0 p1
def auw:=fb WR Xs<|aB fun F p0 p1 p2 p3=>by
 simp only[aa,ae]at *
 obtain⟨a,b,c⟩:=ab (E.I F eN+1)
 omega
def aux:=fb WU (.not (cmp .lss (.ar .add .i64 jR (.int 1)) (.int 0)))<|aB fun F p0 p1 p2 p3=>by
 simp only[aa,ae]at *
 obtain⟨a,b,c⟩:=ab (E.I F jR+1)
 omega
def auy:=fb WV (.not (cmp .lss pY (.ar .add .i64 jS (.int 1))))<|ap fun F p0 p1=>by
 simp only[aa,ae]at *
 obtain⟨a,b,c⟩:=ab (E.I F jS+1)
 omega
def auz:=fb WW (.not (cmp .lss qb (.ar .add .i64 aZ (.int 1))))<|ap fun F p0 p1=>by
 simp only[aa,ae]at *
 obtain⟨a,b,c⟩:=ab (E.I F aZ+1)
 omega
def auA:=fb BI (.not (cmp .lss (.int 4) (.ar .add .i64 eN (.int 1))))<|ap fun F p0 p1=>by
 simp only[aa,ae]at *
 obtain⟨a,b,c⟩:=ab (E.I F eN+1)
 omega
def auB:=fb WX (.not (cmp .lss qc (.ar .add .i64 aZ (.int 1))))<|ap fun F p0 p1=>by
 simp only[aa,ae]at *
 obtain⟨a,b,c⟩:=ab (E.I F aZ+1)
 omega
def auC:=fb WY (.not (cmp .lss qd (.ar .add .i64 aZ (.int 1))))<|ap fun F p0 p1=>by
 simp only[aa,ae]at *
 obtain⟨a,b,c⟩:=ab (E.I F aZ+1)
 omega
def auD:=fb WZ (.not (cmp .lss qe (.ar .add .i64 aZ (.int 1))))<|ap fun F p0 p1=>by
 simp only[aa,ae]at *
 obtain⟨a,b,c⟩:=ab (E.I F aZ+1)
 omega
def auE:=fb W0 (.not (cmp .lss qf (.ar .add .i64 aZ (.int 1))))<|ap fun F p0 p1=>by
 simp only[aa,ae]at *
 obtain⟨a,b,c⟩:=ab (E.I F aZ+1)
 omega
def auF:=fb W1 (.not (cmp .lss qg (.ar .add .i64 aZ (.int 1))))<|ap fun F p0 p1=>by
 simp only[aa,ae]at *
 obtain⟨a,b,c⟩:=ab (E.I F aZ+1)
 omega
def auG:=fb W2 (.not (cmp .lss qh (.ar .add .i64 aZ (.int 1))))<|ap fun F p0 p1=>by
 simp only[aa,ae]at *
 obtain⟨a,b,c⟩:=ab (E.I F aZ+1)
 omega
def auH:=fb W4 (.not (cmp .lss qi (.ar .add .i64 aZ (.int 1))))<|ap fun F p0 p1=>by
 simp only[aa,ae]at *
 obtain⟨a,b,c⟩:=ab (E.I F aZ+1)
 omega
def auI:=fb BG (.not (cmp .lss (.int 2) (.ar .add .i64 jP (.int 1))))<|ap fun F p0 p1=>by
 simp only[aa,ae]at *
 obtain⟨a,b,c⟩:=ab (E.I F jP+1)
 omega
def auJ:=fb [my,W5] (fn 158 (pr (fn 2 (pr dK (pr (fn 6 (pr (fn 8 (pr aS (.int 5))) (.int 4))) (fn 21 (pr (fn 1 (pr dK (fn 6 (pr (fn 8 (pr aS (.int 5))) (.int 4))))) (fn 2 (pr (fn 1 (pr dK (fn 6 (pr (fn 8 (pr aS (.int 5))) (.int 4))))) (pr (fn 6 (pr (fn 8 (pr bP (.int 2))) (.int 0))) (.ar .add .i64 (fn 1 (pr (fn 1 (pr dK (fn 6 (pr (fn 8 (pr aS (.int 5))) (.int 4))))) (fn 6 (pr (fn 8 (pr bP (.int 2))) (.int 0))))) (.int 1)))))))))) mw))<|ap fun F p0 p1=>by
 have h0:0<=E.I F aS:=by simp only[aa]at *;omega
 exact aaJ h0 p1
def auK:=fb Jt W7<|aK fun F p0 p1 p2 p3 p4=>by
 simp only[aa,ae]at *
 obtain⟨a,b,c⟩:=ab (E.I F aS+1)
 omega
def auL:=fb [my,W8] (fn 158 (pr (fn 2 (pr dL (pr (fn 6 (pr (fn 8 (pr aS (.int 5))) (.int 4))) (fn 21 (pr (fn 1 (pr dL (fn 6 (pr (fn 8 (pr aS (.int 5))) (.int 4))))) (fn 2 (pr (fn 1 (pr dL (fn 6 (pr (fn 8 (pr aS (.int 5))) (.int 4))))) (pr (fn 6 (pr (fn 8 (pr bP (.int 2))) (.int 0))) (.ar .add .i64 (fn 1 (pr (fn 1 (pr dL (fn 6 (pr (fn 8 (pr aS (.int 5))) (.int 4))))) (fn 6 (pr (fn 8 (pr bP (.int 2))) (.int 0))))) (.int 1)))))))))) jT))<|ap fun F p0 p1=>by
 have h0:0<=E.I F aS:=by simp only[aa]at *;omega
 exact aaJ h0 p1
def auM:=fb Ju W7<|aK fun F p0 p1 p2 p3 p4=>by
 simp only[aa,ae]at *
 obtain⟨a,b,c⟩:=ab (E.I F aS+1)
 omega
def auN:=fb BH (.not (cmp .lss (.int 2) (.ar .add .i64 jQ (.int 1))))<|ap fun F p0 p1=>by
 simp only[aa,ae]at *
 obtain⟨a,b,c⟩:=ab (E.I F jQ+1)
 omega
def auO:=fb Xa (.not (cmp .lss pZ (.ar .add .i64 eN (.int 1))))<|ap fun F p0 p1=>by
 simp only[aa,ae]at *
 obtain⟨a,b,c⟩:=ab (E.I F eN+1)
 omega
def auP:=fb Xb (.not (cmp .lss qa (.ar .add .i64 jR (.int 1))))<|ap fun F p0 p1=>by
 simp only[aa,ae]at *
 obtain⟨a,b,c⟩:=ab (E.I F jR+1)
 omega
def auQ:=fb Xo (cmp .lss (fn 7 (pr pY (.ar .add .i64 jS (.int 1)))) (fn 7 (pr pY jS)))<|aB fun F p0 p1 p2 p3=>by
 simp only[aa,ae]at *
 obtain⟨a,b,c⟩:=ab (E.I F jS+1)
 omega
def auR:=fb Xr (cmp .lss (fn 7 (pr qb (.ar .add .i64 aZ (.int 1)))) (fn 7 (pr qb aZ)))<|aB fun F p0 p1 p2 p3=>by
 simp only[aa,ae]at *
 obtain⟨a,b,c⟩:=ab (E.I F aZ+1)
 omega
def auS:=fb BI (cmp .lss (fn 7 (pr (.int 4) (.ar .add .i64 eN (.int 1)))) (fn 7 (pr (.int 4) eN)))<|ap fun F p0 p1=>by
 simp only[aa,ae]at *
 obtain⟨a,b,c⟩:=ab (E.I F eN+1)
 omega
def auT:=fb Xv (cmp .lss (fn 7 (pr qc (.ar .add .i64 aZ (.int 1)))) (fn 7 (pr qc aZ)))<|aB fun F p0 p1 p2 p3=>by
 simp only[aa,ae]at *
 obtain⟨a,b,c⟩:=ab (E.I F aZ+1)
 omega
def auU:=fb Xx (cmp .lss (fn 7 (pr qd (.ar .add .i64 aZ (.int 1)))) (fn 7 (pr qd aZ)))<|aB fun F p0 p1 p2 p3=>by
 simp only[aa,ae]at *
 obtain⟨a,b,c⟩:=ab (E.I F aZ+1)
 omega
def auV:=fb XA (cmp .lss (fn 7 (pr qe (.ar .add .i64 aZ (.int 1)))) (fn 7 (pr qe aZ)))<|aB fun F p0 p1 p2 p3=>by
 simp only[aa,ae]at *
 obtain⟨a,b,c⟩:=ab (E.I F aZ+1)
 omega
def auW:=fb XC (cmp .lss (fn 7 (pr qf (.ar .add .i64 aZ (.int 1)))) (fn 7 (pr qf aZ)))<|aB fun F p0 p1 p2 p3=>by
 simp only[aa,ae]at *
 obtain⟨a,b,c⟩:=ab (E.I F aZ+1)
 omega
def auX:=fb XF (cmp .lss (fn 7 (pr qg (.ar .add .i64 aZ (.int 1)))) (fn 7 (pr qg aZ)))<|aB fun F p0 p1 p2 p3=>by
 simp only[aa,ae]at *
 obtain⟨a,b,c⟩:=ab (E.I F aZ+1)
 omega
def auY:=fb XH (cmp .lss (fn 7 (pr qh (.ar .add .i64 aZ (.int 1)))) (fn 7 (pr qh aZ)))<|aB fun F p0 p1 p2 p3=>by
 simp only[aa,ae]at *
 obtain⟨a,b,c⟩:=ab (E.I F aZ+1)
 omega
def auZ:=fb WP (cmp .lss (fn 7 (pr qi (.ar .add .i64 aZ (.int 1)))) (fn 7 (pr qi aZ)))<|aB fun F p0 p1 p2 p3=>by
 simp only[aa,ae]at *
 obtain⟨a,b,c⟩:=ab (E.I F aZ+1)
 omega
def au0:=fb BG (cmp .lss (fn 7 (pr (.int 2) (.ar .add .i64 jP (.int 1)))) (fn 7 (pr (.int 2) jP)))<|ap fun F p0 p1=>by
 simp only[aa,ae]at *
 obtain⟨a,b,c⟩:=ab (E.I F jP+1)
 omega
def au1:=fb Xd Xe<|aK fun F p0 p1 p2 p3 p4=>by
 have h0:0<=E.I F aS:=by simp only[aa]at *;omega
 have h9:=by simp only[aa]at *;omega
 have:=Dd h0 h9 p0
 simp only[aa,ae]at *
 obtain⟨a,b,c⟩:=ab (E.I F bP+1)
 omega
def au2:=fb (Jw::W6) (.not (cmp .lss mw (.ar .add .i64 aS (.int 1))))<|am fun F p0 p1 p2=>by
 simp only[aa,ae]at *
 obtain⟨a,b,c⟩:=ab (E.I F aS+1)
 omega
def au3:=fb Xg Xe<|aK fun F p0 p1 p2 p3 p4=>by
 have h0:0<=E.I F aS:=by simp only[aa]at *;omega
 have h9:E.I F aS<E.I F jT:=by simp only[aa]at *;omega
 have:=Dd h0 h9 p0
 simp only[aa,ae]at *
 obtain⟨a,b,c⟩:=ab (E.I F bP+1)
 omega
def au4:=fb (Jy::W9) (.not (cmp .lss jT (.ar .add .i64 aS (.int 1))))<|am fun F p0 p1 p2=>by
 simp only[aa,ae]at *
 obtain⟨a,b,c⟩:=ab (E.I F aS+1)
 omega
def au5:=fb BH (cmp .lss (fn 7 (pr (.int 2) (.ar .add .i64 jQ (.int 1)))) (fn 7 (pr (.int 2) jQ)))<|ap fun F p0 p1=>by
 simp only[aa,ae]at *
 obtain⟨a,b,c⟩:=ab (E.I F jQ+1)
 omega
def au6:=fb WR (cmp .lss (fn 7 (pr pZ (.ar .add .i64 eN (.int 1)))) (fn 7 (pr pZ eN)))<|aB fun F p0 p1 p2 p3=>by
 simp only[aa,ae]at *
 obtain⟨a,b,c⟩:=ab (E.I F eN+1)
 omega
def au7:=fb WU (cmp .lss (fn 7 (pr qa (.ar .add .i64 jR (.int 1)))) (fn 7 (pr qa jR)))<|aB fun F p0 p1 p2 p3=>by
 simp only[aa,ae]at *
 obtain⟨a,b,c⟩:=ab (E.I F jR+1)
 omega
def au8:=fb WV (.not (cmp .lss (fn 7 (pr pY (.ar .add .i64 jS (.int 1)))) (.int 0)))<|ap fun F p0 p1=>by
 simp only[aa,ae]at *
 obtain⟨a,b,c⟩:=ab (E.I F jS+1)
 omega
def au9:=fb WW (.not (cmp .lss (fn 7 (pr qb (.ar .add .i64 aZ (.int 1)))) (.int 0)))<|ap fun F p0 p1=>by
 simp only[aa,ae]at *
 obtain⟨a,b,c⟩:=ab (E.I F aZ+1)
 omega
def ava:=fb BI (.not (cmp .lss (fn 7 (pr (.int 4) (.ar .add .i64 eN (.int 1)))) (.int 0)))<|ap fun F p0 p1=>by
 simp only[aa,ae]at *
 obtain⟨a,b,c⟩:=ab (E.I F eN+1)
 omega
def avb:=fb WX (.not (cmp .lss (fn 7 (pr qc (.ar .add .i64 aZ (.int 1)))) (.int 0)))<|ap fun F p0 p1=>by
 simp only[aa,ae]at *
 obtain⟨a,b,c⟩:=ab (E.I F aZ+1)
 omega
def avc:=fb WY (.not (cmp .lss (fn 7 (pr qd (.ar .add .i64 aZ (.int 1)))) (.int 0)))<|ap fun F p0 p1=>by
 simp only[aa,ae]at *
 obtain⟨a,b,c⟩:=ab (E.I F aZ+1)
 omega
def agR:=fb WZ (.not (cmp .lss (fn 7 (pr qe (.ar .add .i64 aZ (.int 1)))) (.int 0)))<|ap fun F p0 p1=>by
 simp only[aa,ae]at *
 obtain⟨a,b,c⟩:=ab (E.I F aZ+1)
 omega
def agS:=fb W0 (.not (cmp .lss (fn 7 (pr qf (.ar .add .i64 aZ (.int 1)))) (.int 0)))<|ap fun F p0 p1=>by
 simp only[aa,ae]at *
 obtain⟨a,b,c⟩:=ab (E.I F aZ+1)
 omega
def agT:=fb W1 (.not (cmp .lss (fn 7 (pr qg (.ar .add .i64 aZ (.int 1)))) (.int 0)))<|ap fun F p0 p1=>by
 simp only[aa,ae]at *
 obtain⟨a,b,c⟩:=ab (E.I F aZ+1)
 omega
def agU:=fb W2 (.not (cmp .lss (fn 7 (pr qh (.ar .add .i64 aZ (.int 1)))) (.int 0)))<|ap fun F p0 p1=>by
 simp only[aa,ae]at *
 obtain⟨a,b,c⟩:=ab (E.I F aZ+1)
 omega
def agV:=fb W4 (.not (cmp .lss (fn 7 (pr qi (.ar .add .i64 aZ (.int 1)))) (.int 0)))<|ap fun F p0 p1=>by
 simp only[aa,ae]at *
 obtain⟨a,b,c⟩:=ab (E.I F aZ+1)
 omega
def agW:=fb BG (.not (cmp .lss (fn 7 (pr (.int 2) (.ar .add .i64 jP (.int 1)))) (.int 0)))<|ap fun F p0 p1=>by
 simp only[aa,ae]at *
 obtain⟨a,b,c⟩:=ab (E.I F jP+1)
 omega
def agX:=fb Xi (.not (cmp .lss (fn 9 (pr (fn 1 (pr (fn 2 (pr dK (pr (fn 6 (pr (fn 8 (pr aS (.int 5))) (.int 4))) (fn 21 (pr (fn 1 (pr dK (fn 6 (pr (fn 8 (pr aS (.int 5))) (.int 4))))) (fn 2 (pr (fn 1 (pr dK (fn 6 (pr (fn 8 (pr aS (.int 5))) (.int 4))))) (pr (fn 6 (pr (fn 8 (pr bP (.int 2))) (.int 0))) (.ar .add .i64 (fn 1 (pr (fn 1 (pr dK (fn 6 (pr (fn 8 (pr aS (.int 5))) (.int 4))))) (fn 6 (pr (fn 8 (pr bP (.int 2))) (.int 0))))) (.int 1)))))))))) (fn 6 (pr (fn 8 (pr aS (.int 5))) (.int 4))))) (.int 2))) (.ar .add .i64 bP (.int 1))))<|am fun F p0 p1 p2=>by
 have h0:0<=E.I F aS:=by simp only[aa]at *;omega
 have hr:E.I F (fn 9 (pr (fn 1 (pr (fn 2 (pr _ (pr _ (fn 21 (pr _ (fn 2 (pr _ (pr (fn 6 (pr (fn 8 (pr bP (.int 2))) (.int 0))) (.ar .add .i64 (fn 1 (pr (fn 1 (pr dK (fn 6 (pr (fn 8 (pr aS (.int 5))) (.int 4))))) (fn 6 (pr (fn 8 (pr bP (.int 2))) (.int 0))))) (.int 1)))))))))) _)) _))=E.I F (fn 9 (pr (fn 1 (pr dK _)) _)):=tp h0;simp only[aa,ae]at *
 obtain⟨a,b,c⟩:=ab (E.I F bP+1)
 omega
def agY:=fb Jt Xj<|aK fun F p0 p1 p2 p3 p4=>by
 simp only[aa,ae]at *
 obtain⟨a,b,c⟩:=ab (E.I F aS+1)
 omega
def agZ:=fb Xk (.not (cmp .lss (fn 9 (pr (fn 1 (pr (fn 2 (pr dL (pr (fn 6 (pr (fn 8 (pr aS (.int 5))) (.int 4))) (fn 21 (pr (fn 1 (pr dL (fn 6 (pr (fn 8 (pr aS (.int 5))) (.int 4))))) (fn 2 (pr (fn 1 (pr dL (fn 6 (pr (fn 8 (pr aS (.int 5))) (.int 4))))) (pr (fn 6 (pr (fn 8 (pr bP (.int 2))) (.int 0))) (.ar .add .i64 (fn 1 (pr (fn 1 (pr dL (fn 6 (pr (fn 8 (pr aS (.int 5))) (.int 4))))) (fn 6 (pr (fn 8 (pr bP (.int 2))) (.int 0))))) (.int 1)))))))))) (fn 6 (pr (fn 8 (pr aS (.int 5))) (.int 4))))) (.int 2))) (.ar .add .i64 bP (.int 1))))<|am fun F p0 p1 p2=>by
 have h0:0<=E.I F aS:=by simp only[aa]at *;omega
 have hr:E.I F (fn 9 (pr (fn 1 (pr (fn 2 (pr _ (pr _ (fn 21 (pr _ (fn 2 (pr _ (pr (fn 6 (pr (fn 8 (pr bP (.int 2))) (.int 0))) (.ar .add .i64 (fn 1 (pr (fn 1 (pr dL (fn 6 (pr (fn 8 (pr aS (.int 5))) (.int 4))))) (fn 6 (pr (fn 8 (pr bP (.int 2))) (.int 0))))) (.int 1)))))))))) _)) _))=E.I F (fn 9 (pr (fn 1 (pr dL _)) _)):=tp h0;simp only[aa,ae]at *
 obtain⟨a,b,c⟩:=ab (E.I F bP+1)
 omega
def ag0:=fb Ju Xj<|aK fun F p0 p1 p2 p3 p4=>by
 simp only[aa,ae]at *
 obtain⟨a,b,c⟩:=ab (E.I F aS+1)
 omega
def ag1:=fb BH (.not (cmp .lss (fn 7 (pr (.int 2) (.ar .add .i64 jQ (.int 1)))) (.int 0)))<|ap fun F p0 p1=>by
 simp only[aa,ae]at *
 obtain⟨a,b,c⟩:=ab (E.I F jQ+1)
 omega
def ag2:=fb Xa (.not (cmp .lss (fn 7 (pr pZ (.ar .add .i64 eN (.int 1)))) (.int 0)))<|ap fun F p0 p1=>by
 simp only[aa,ae]at *
 obtain⟨a,b,c⟩:=ab (E.I F eN+1)
 omega
def ag3:=fb Xb (.not (cmp .lss (fn 7 (pr qa (.ar .add .i64 jR (.int 1)))) (.int 0)))<|ap fun F p0 p1=>by
 simp only[aa,ae]at *
 obtain⟨a,b,c⟩:=ab (E.I F jR+1)
 omega
def ag4:=fb Xd (cmp .lss (fn 7 (pr (fn 9 (pr (fn 1 (pr (fn 2 (pr dK (pr (fn 6 (pr (fn 8 (pr aS (.int 5))) (.int 4))) (fn 21 (pr (fn 1 (pr dK (fn 6 (pr (fn 8 (pr aS (.int 5))) (.int 4))))) (fn 2 (pr (fn 1 (pr dK (fn 6 (pr (fn 8 (pr aS (.int 5))) (.int 4))))) (pr (fn 6 (pr (fn 8 (pr bP (.int 2))) (.int 0))) (.ar .add .i64 (fn 1 (pr (fn 1 (pr dK (fn 6 (pr (fn 8 (pr aS (.int 5))) (.int 4))))) (fn 6 (pr (fn 8 (pr bP (.int 2))) (.int 0))))) (.int 1)))))))))) (fn 6 (pr (fn 8 (pr aS (.int 5))) (.int 4))))) (.int 2))) (.ar .add .i64 bP (.int 1)))) (fn 7 (pr (fn 9 (pr (fn 1 (pr dK (fn 6 (pr (fn 8 (pr aS (.int 5))) (.int 4))))) (.int 2))) bP)))<|aK fun F p0 p1 p2 p3 p4=>by
 have h0:0<=E.I F aS:=by simp only[aa]at *;omega
 have h9:=by simp only[aa]at *;omega
 have:=Dd h0 h9 p0
 have hr:E.I F (fn 9 (pr (fn 1 (pr (fn 2 (pr _ (pr _ (fn 21 (pr _ (fn 2 (pr _ (pr (fn 6 (pr (fn 8 (pr bP (.int 2))) (.int 0))) (.ar .add .i64 (fn 1 (pr (fn 1 (pr dK (fn 6 (pr (fn 8 (pr aS (.int 5))) (.int 4))))) (fn 6 (pr (fn 8 (pr bP (.int 2))) (.int 0))))) (.int 1)))))))))) _)) _))=E.I F (fn 9 (pr (fn 1 (pr dK _)) _)):=tp h0;simp only[aa,ae]at *
 obtain⟨a,b,c⟩:=ab (E.I F bP+1)
 omega
def ag5:=fb Jt Xl<|aK fun F p0 p1 p2 p3 p4=>by
 simp only[aa,ae]at *
 obtain⟨a,b,c⟩:=ab (E.I F aS+1)
 omega
def ag6:=fb Xg (cmp .lss (fn 7 (pr (fn 9 (pr (fn 1 (pr (fn 2 (pr dL (pr (fn 6 (pr (fn 8 (pr aS (.int 5))) (.int 4))) (fn 21 (pr (fn 1 (pr dL (fn 6 (pr (fn 8 (pr aS (.int 5))) (.int 4))))) (fn 2 (pr (fn 1 (pr dL (fn 6 (pr (fn 8 (pr aS (.int 5))) (.int 4))))) (pr (fn 6 (pr (fn 8 (pr bP (.int 2))) (.int 0))) (.ar .add .i64 (fn 1 (pr (fn 1 (pr dL (fn 6 (pr (fn 8 (pr aS (.int 5))) (.int 4))))) (fn 6 (pr (fn 8 (pr bP (.int 2))) (.int 0))))) (.int 1)))))))))) (fn 6 (pr (fn 8 (pr aS (.int 5))) (.int 4))))) (.int 2))) (.ar .add .i64 bP (.int 1)))) (fn 7 (pr (fn 9 (pr (fn 1 (pr dL (fn 6 (pr (fn 8 (pr aS (.int 5))) (.int 4))))) (.int 2))) bP)))<|aK fun F p0 p1 p2 p3 p4=>by
 have h0:0<=E.I F aS:=by simp only[aa]at *;omega
 have h9:E.I F aS<E.I F jT:=by simp only[aa]at *;omega
 have:=Dd h0 h9 p0
 have hr:E.I F (fn 9 (pr (fn 1 (pr (fn 2 (pr _ (pr _ (fn 21 (pr _ (fn 2 (pr _ (pr (fn 6 (pr (fn 8 (pr bP (.int 2))) (.int 0))) (.ar .add .i64 (fn 1 (pr (fn 1 (pr dL (fn 6 (pr (fn 8 (pr aS (.int 5))) (.int 4))))) (fn 6 (pr (fn 8 (pr bP (.int 2))) (.int 0))))) (.int 1)))))))))) _)) _))=E.I F (fn 9 (pr (fn 1 (pr dL _)) _)):=tp h0;simp only[aa,ae]at *
 obtain⟨a,b,c⟩:=ab (E.I F bP+1)
 omega
def ag7:=fb Ju Xl<|aK fun F p0 p1 p2 p3 p4=>by
 simp only[aa,ae]at *
 obtain⟨a,b,c⟩:=ab (E.I F aS+1)
 omega
def ag8:=fb Xi (.not (cmp .lss (fn 7 (pr (fn 9 (pr (fn 1 (pr (fn 2 (pr dK (pr (fn 6 (pr (fn 8 (pr aS (.int 5))) (.int 4))) (fn 21 (pr (fn 1 (pr dK (fn 6 (pr (fn 8 (pr aS (.int 5))) (.int 4))))) (fn 2 (pr (fn 1 (pr dK (fn 6 (pr (fn 8 (pr aS (.int 5))) (.int 4))))) (pr (fn 6 (pr (fn 8 (pr bP (.int 2))) (.int 0))) (.ar .add .i64 (fn 1 (pr (fn 1 (pr dK (fn 6 (pr (fn 8 (pr aS (.int 5))) (.int 4))))) (fn 6 (pr (fn 8 (pr bP (.int 2))) (.int 0))))) (.int 1)))))))))) (fn 6 (pr (fn 8 (pr aS (.int 5))) (.int 4))))) (.int 2))) (.ar .add .i64 bP (.int 1)))) (.int 0)))<|am fun F p0 p1 p2=>by
 have h0:0<=E.I F aS:=by simp only[aa]at *;omega
 have hr:E.I F (fn 9 (pr (fn 1 (pr (fn 2 (pr _ (pr _ (fn 21 (pr _ (fn 2 (pr _ (pr (fn 6 (pr (fn 8 (pr bP (.int 2))) (.int 0))) (.ar .add .i64 (fn 1 (pr (fn 1 (pr dK (fn 6 (pr (fn 8 (pr aS (.int 5))) (.int 4))))) (fn 6 (pr (fn 8 (pr bP (.int 2))) (.int 0))))) (.int 1)))))))))) _)) _))=E.I F (fn 9 (pr (fn 1 (pr dK _)) _)):=tp h0;simp only[aa,ae]at *
 obtain⟨a,b,c⟩:=ab (E.I F bP+1)
 omega
def ag9:=fb Xk (.not (cmp .lss (fn 7 (pr (fn 9 (pr (fn 1 (pr (fn 2 (pr dL (pr (fn 6 (pr (fn 8 (pr aS (.int 5))) (.int 4))) (fn 21 (pr (fn 1 (pr dL (fn 6 (pr (fn 8 (pr aS (.int 5))) (.int 4))))) (fn 2 (pr (fn 1 (pr dL (fn 6 (pr (fn 8 (pr aS (.int 5))) (.int 4))))) (pr (fn 6 (pr (fn 8 (pr bP (.int 2))) (.int 0))) (.ar .add .i64 (fn 1 (pr (fn 1 (pr dL (fn 6 (pr (fn 8 (pr aS (.int 5))) (.int 4))))) (fn 6 (pr (fn 8 (pr bP (.int 2))) (.int 0))))) (.int 1)))))))))) (fn 6 (pr (fn 8 (pr aS (.int 5))) (.int 4))))) (.int 2))) (.ar .add .i64 bP (.int 1)))) (.int 0)))<|am fun F p0 p1 p2=>by
 have h0:0<=E.I F aS:=by simp only[aa]at *;omega
 have hr:E.I F (fn 9 (pr (fn 1 (pr (fn 2 (pr _ (pr _ (fn 21 (pr _ (fn 2 (pr _ (pr (fn 6 (pr (fn 8 (pr bP (.int 2))) (.int 0))) (.ar .add .i64 (fn 1 (pr (fn 1 (pr dL (fn 6 (pr (fn 8 (pr aS (.int 5))) (.int 4))))) (fn 6 (pr (fn 8 (pr bP (.int 2))) (.int 0))))) (.int 1)))))))))) _)) _))=E.I F (fn 9 (pr (fn 1 (pr dL _)) _)):=tp h0;simp only[aa,ae]at *
 obtain⟨a,b,c⟩:=ab (E.I F bP+1)
 omega
def p62:List Fa:=[cY,aug,auh,aui,auj,auk,aul,aum,aun,auo,aup,auq,aur,aus,aut,auu,auv,auw,aux,auy,auz,auA,auB,auC,auD,auE,auF,auG,auH,auI,auJ,auK,auL,auM,auN,auO,auP,auQ,auR,auS,auT,auU,auV,auW,auX,auY,auZ,au0,au1,au2,au3,au4,au5,au6,au7,au8,au9,ava,avb,avc,agR,agS,agT,agU,agV,agW,agX,agY,agZ,ag0,ag1,ag2,ag3,ag4,ag5,ag6,ag7,ag8,ag9]
theorem aJD:aR Tryz.prog (bj (aIC)):=sc p62 (aDr) adn ([]) (by kernel_rfl) (by kernel_rfl)
def Eu:Nl:=nc aJD adn
end
end Go.Proofs.YtnggbcblogpnfaaGreat.combatAttacks
