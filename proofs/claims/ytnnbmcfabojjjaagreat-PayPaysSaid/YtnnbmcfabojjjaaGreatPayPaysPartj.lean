/-
  PayPays: contracts of functions, part 10.
-/
import Derived.Test.YtnnbmcfabojjjaaGreatPayPaysParti
namespace Go.Proofs.YtnnbmcfabojjjaaGreat.payPays
open Go.ChangeShapes Go.WideShapes Go.ChangeAt Go.RowKit
open Go.SX
open Go.SX.E (fn pr cmp var)
set_option linter.unusedVariables false
set_option linter.unusedSimpArgs false
set_option maxRecDepth 100000
noncomputable section
abbrev U0:E:=var 0
abbrev U1:E:=cmp .lss U0 (.int 0)
abbrev U2:E:=var 1
abbrev U3:E:=var 2
abbrev U4:E:=var 3
abbrev U5:E:=var 4
abbrev U6:E:=pr U3 (pr U4 U5)
abbrev U7:E:=pr U2 U6
abbrev U8:E:=pr U0 U7
abbrev U9:E:=fn 146 U8
abbrev pz:E:=.iff (.bool false) U9
abbrev pA:E:=.not U1
abbrev U12:E:=cmp .lss (.int 20) U0
abbrev qV:E:=.not U12
abbrev U14:E:=cmp .lss U2 (.int 0)
abbrev tS:E:=.not U14
abbrev U16:E:=cmp .lss (.int 20) U2
abbrev wM:E:=.not U16
abbrev U18:E:=cmp .lss U3 (.int 0)
abbrev qX:E:=.not U18
abbrev U20:E:=cmp .lss (.int 20) U3
abbrev FV:E:=.not U20
abbrev U22:E:=cmp .lss U4 (.int 0)
abbrev FW:E:=.not U22
abbrev FX:E:=cmp .lss (.int 20) U4
abbrev NQ:E:=cmp .lss U5 (.int 0)
abbrev U26:E:=cmp .lss (.int 20) U5
abbrev U27:E:=.not U26
abbrev wN:E:=var 9
abbrev FY:E:=fn 145 (pr U2 U3)
abbrev AQ:E:=.iff wN FY
abbrev eR:E:=var 5
abbrev eS:E:=var 6
abbrev cI:E:=var 7
abbrev gk:E:=fn 146 (pr U4 (pr U5 (pr eR (pr eS cI))))
abbrev U35:E:=cmp .eql U3 (.int 0)
abbrev NR:E:=.not U35
abbrev U37:=[wN,NR]
abbrev NT:=AQ::U37
abbrev U39:E:=cmp .eql U3 (.int 1)
abbrev U40:E:=cmp .lss (.int 1) U3
abbrev U41:E:=.not U40
abbrev AR:=[AQ,wN]
abbrev U43:E:=pr U3 (fn 9 (pr (fn 1 (pr U2 (.int 0))) (.int 12)))
abbrev U44:E:=pr U2 U43
abbrev U45:E:=pr U0 U44
abbrev U46:E:=pr (var 10) U45
abbrev U47:E:=fn 143 U46
abbrev U48:=[U47]
abbrev U49:E:=pr U3 (.int 0)
abbrev U50:E:=pr U2 U49
abbrev U51:E:=pr U0 U50
abbrev FZ:E:=pr U4 (pr U5 (pr eR (pr eS U51)))
abbrev AS:E:=pr (.int 0) FZ
abbrev U54:E:=pr (fn 10 (.int 0)) (pr (.int 0) AS)
abbrev U55:E:=pr (var 10) U54
abbrev bB:E:=var 34
abbrev f9:E:=cmp .lss bB (.int 4)
abbrev tT:E:=cmp .eql bB (.int 0)
abbrev U59:E:=cmp .lss bB (.int 0)
abbrev U60:E:=.not U59
abbrev AT:=[U60]
abbrev U62:=tT::AT
abbrev F4:=f9::U62
abbrev F5:E:=.not (cmp .lss (.ar .add .i64 bB (.int 1)) (.int 0))
abbrev nO:E:=cmp .eql bB (.int 1)
abbrev nP:E:=cmp .eql bB (.int 2)
abbrev wO:E:=.not tT
abbrev wP:E:=.not nO
abbrev wQ:E:=.not nP
abbrev F6:E:=.not (cmp .lss (.int 4) (.ar .add .i64 bB (.int 1)))
abbrev wR:E:=.not (cmp .lss (.int 4) bB)
abbrev U72:=wR::AT
abbrev U73:=f9::U72
abbrev wS:E:=var 24
abbrev wT:E:=var 25
abbrev wU:E:=var 26
abbrev wV:E:=var 27
abbrev wW:E:=var 28
abbrev U79:E:=pr bB AS
abbrev U80:E:=pr (fn 10 (.int 0)) U79
abbrev U81:E:=pr wW U80
abbrev U82:E:=pr wV U81
abbrev U83:E:=pr wU U82
abbrev U84:E:=pr wT U83
abbrev U85:E:=pr wS U84
abbrev U86:E:=fn 176 U85
abbrev AU:=[U86]
abbrev wX:E:=fn 176 (pr wS (pr wT (pr wU (pr wV (pr wW (pr (var 31) U79))))))
abbrev F7:E:=cmp .lss (fn 7 (pr (.int 4) (.ar .add .i64 bB (.int 1)))) (fn 7 (pr (.int 4) bB))
abbrev ga:E:=var 74
abbrev pD:E:=cmp .lss ga cI
abbrev U92:E:=cmp .lss ga (.int 0)
abbrev U93:E:=.not U92
abbrev NU:=[U93]
abbrev U95:=pD::NU
abbrev U96:=gk::U95
abbrev U97:E:=cmp .lss cI ga
abbrev NV:E:=.not U97
abbrev wY:E:=var 64
abbrev wI:E:=var 65
abbrev wK:E:=var 66
abbrev wL:E:=var 67
abbrev FP:E:=var 68
abbrev aQm:E:=pr ga FZ
abbrev adU:E:=pr (.int 4) aQm
abbrev aQn:E:=pr (fn 10 (.int 0)) adU
abbrev aQo:E:=pr FP aQn
abbrev aQp:E:=pr wL aQo
abbrev aQq:E:=pr wK aQp
abbrev aQr:E:=pr wI aQq
abbrev aQs:E:=pr wY aQr
abbrev aQt:E:=fn 176 aQs
abbrev adV:=[aQt]
abbrev aQu:E:=pr cI U51
abbrev aQv:E:=pr eS aQu
abbrev aQw:E:=pr eR aQv
abbrev aQx:E:=pr U5 aQw
abbrev adW:E:=pr U4 aQx
abbrev AJ:E:=var 72
abbrev aQy:E:=cmp .lss (.int 30) (fn 6 (pr (var 69) AJ))
abbrev aQz:E:=.not aQy
abbrev aQA:E:=cmp .lss (var 69) (.int 0)
abbrev aQB:E:=.not aQA
abbrev aQC:=[aQB]
abbrev adX:=aQz::aQC
abbrev aQD:=NV::NU
abbrev aQE:=pD::aQD
abbrev adY:=gk::aQE
abbrev AK:E:=var 71
abbrev aQF:E:=pr AK adU
abbrev aQG:E:=pr FP aQF
abbrev aQH:E:=pr wL aQG
abbrev aQI:E:=pr wK aQH
abbrev aQJ:E:=pr wI aQI
abbrev aQK:E:=pr wY aQJ
abbrev adZ:E:=fn 176 aQK
abbrev FQ:E:=.not (cmp .lss (fn 7 (pr (.int 4) (.ar .add .i64 bB (.int 1)))) (.int 0))
abbrev ad0:E:=pr (fn 10 (.int 0)) (.int 0)
abbrev FS:E:=pr wS (pr wT (pr wU (pr wV (pr wW ad0))))
abbrev NK:E:=pr bB (pr U4 FS)
abbrev nN:E:=fn 177 (pr (.int 4) (pr cI FZ))
abbrev jF:E:=var 35
abbrev jG:E:=var 36
abbrev jH:E:=var 37
abbrev jI:E:=var 38
abbrev jJ:E:=var 39
abbrev pB:E:=var 42
abbrev pC:=U60::AU
abbrev ad1:E:=pr (.ar .add .i64 bB (.int 1)) AS
abbrev qW:E:=fn 176 (pr jF (pr jG (pr jH (pr jI (pr jJ (pr pB ad1))))))
abbrev FT:E:=fn 176 (pr jF (pr jG (pr jH (pr jI (pr jJ (pr (fn 10 (.int 0)) ad1))))))
abbrev NL:E:=pr bB (pr U5 FS)
abbrev NM:E:=pr bB (pr eR FS)
abbrev NN:E:=pr bB (pr eS FS)
abbrev NO:E:=pr (.int 4) (pr (.int 1) (pr wY (pr wI (pr wK (pr wL (pr FP ad0))))))
abbrev ad2:=U93::adV
abbrev AL:E:=var 77
abbrev AM:E:=var 78
abbrev AN:E:=var 79
abbrev AO:E:=var 80
abbrev AP:E:=var 81
abbrev ad3:=gk::ad2
abbrev aQL:E:=pr (.ar .add .i64 ga (.int 1)) FZ
abbrev ad4:E:=pr (.int 4) aQL
abbrev aQM:E:=pr (var 84) ad4
abbrev aQN:E:=pr AP aQM
abbrev aQO:E:=pr AO aQN
abbrev aQP:E:=pr AN aQO
abbrev aQQ:E:=pr AM aQP
abbrev aQR:E:=pr AL aQQ
abbrev ad5:E:=fn 176 aQR
abbrev aQS:E:=pr FP (pr AK (.int 0))
abbrev aQT:E:=pr wL aQS
abbrev aQU:E:=pr wK aQT
abbrev aQV:E:=pr wI aQU
abbrev aQW:E:=pr wY aQV
abbrev aQX:E:=pr (.int 1) aQW
abbrev ad6:E:=pr (.int 4) aQX
abbrev ad7:=adZ::NU
abbrev FU:E:=pr wS (pr wT (pr wU (pr wV (pr wW (pr (var 31) (.int 0))))))
abbrev ad8:E:=pr bB (pr U4 FU)
abbrev NP:=wX::AT
abbrev ad9:E:=pr bB (pr U5 FU)
abbrev aea:E:=pr bB (pr eR FU)
abbrev aeb:E:=pr bB (pr eS FU)
abbrev aec:=wX::U72
def aLj:=fb [U1] pz<|aj fun F p0=>by
 have:=@aV F U0 U2 U3 U4 U5
 simp only[aa]at *;grind
def aLk:=fb [pA,qV,U14] pz<|ag fun F p0 p1 p2=>by
 have:=@aV F U0 U2 U3 U4 U5
 simp only[aa]at *;grind
def aLl:=fb [pA,qV,tS,wM,U18] pz<|aw fun F p0 p1 p2 p3 p4=>by
 have:=@aV F U0 U2 U3 U4 U5
 simp only[aa]at *;grind
def aLm:=fb [pA,qV,tS,wM,qX,FV,U22] pz<|bL fun F p0 p1 p2 p3 p4 p5 p6=>by
 have:=@aV F U0 U2 U3 U4 U5
 simp only[aa]at *;grind
def aLn:=fb [pA,qV,tS,wM,qX,FV,FW,(.not FX),(.not NQ)] (.iff U27 U9)<|b8 fun F p0 p1 p2 p3 p4 p5 p6 p7 p8=>by
 have:=@aV F U0 U2 U3 U4 U5
 simp only[aa]at *;grind
def aLo:=fb [pA,qV,tS,wM,qX,FV,FW,(.not FX),NQ] pz<|b8 fun F p0 p1 p2 p3 p4 p5 p6 p7 p8=>by
 have:=@aV F U0 U2 U3 U4 U5
 simp only[aa]at *;grind
def aLp:=fb [pA,qV,tS,wM,qX,FV,FW,FX] pz<|b7 fun F p0 p1 p2 p3 p4 p5 p6 p7=>by
 have:=@aV F U0 U2 U3 U4 U5
 simp only[aa]at *;grind
def aLq:=fb [pA,qV,tS,wM,qX,U20] pz<|bq fun F p0 p1 p2 p3 p4 p5=>by
 have:=@aV F U0 U2 U3 U4 U5
 simp only[aa]at *;grind
def aLr:=fb [pA,qV,tS,U16] pz<|am fun F p0 p1 p2 p3=>by
 have:=@aV F U0 U2 U3 U4 U5
 simp only[aa]at *;grind
def aLs:=fb [pA,U12] pz<|ai fun F p0 p1=>by
 have:=@aV F U0 U2 U3 U4 U5
 simp only[aa]at *;grind
def p62:List Fa:=[dv,aLj,aLk,aLl,aLm,aLn,aLo,aLp,aLq,aLr,aLs]
theorem a3B:aI Tryz.prog (aX (a2o)):=sc p62 ([]) gx ([]) (by kernel_rfl) (by kernel_rfl)
def amk:Nl:=nc a3B gx
def aLt:=fb [AQ,(.not wN)] (.not (.and FY gk))<|ai fun F p0 p1=>by
 simp_all
def aLu:=fb NT U39<|ag fun F p0 p1 p2=>by
 have:=@dX F U3 U2
 simp only[aa]at *;grind
def aLv:=fb [AQ,wN,NR,(.not U39)] qX<|am fun F p0 p1 p2 p3=>by
 have:=@dX F U3 U2
 simp only[aa]at *;grind
def aLw:=fb [(.iff (var 8) gk),(.not (var 8))] (.not (.and FY gk))<|ai fun F p0 p1=>by
 simp_all
def aLx:=fb NT qX<|ag fun F p0 p1 p2=>by
 have:=@dX F U3 U2
 simp only[aa]at *;grind
def aLy:=fb NT U41<|ag fun F p0 p1 p2=>by
 have:=@dX F U3 U2
 simp only[aa]at *;grind
def aLz:=fb AR FY<|ai fun F p0 p1=>by
 simp_all
def aLA:=fb [(.iff (var 8) gk),(var 8)] gk<|ai fun F p0 p1=>by
 simp_all
def aLB:=fb [(fn 117 U2),(.not (cmp .lss (fn 9 (pr (fn 1 (pr U2 (.int 0))) (.int 12))) (var 11)))] (.not (cmp .lss (.int 30) (var 11)))<|ai fun F p0 p1=>by
 have:=ap p0
 simp only[aa]at *;grind
def aLC:=fb AR (fn 188 (pr (fn 1 (pr U2 (.int 16))) (pr (fn 1 (pr U2 (.int 17))) (pr (fn 1 (pr U2 (.int 18))) (pr (fn 1 (pr U2 (.int 19))) (.int 0))))))<|ai fun F p0 p1=>by
 have hr0:(E.B F (fn _ (pr _ U3))=true)->E.B F (fn _ (pr _ (pr _ (pr _ (pr (fn 1 (pr U2 _)) _)))))=true:=fun s0=>apU s0
 simp_all
def aLD:=fb AR (fn 188 (pr (fn 1 (pr U2 (.int 2))) (pr (fn 1 (pr U2 (.int 3))) (pr (fn 1 (pr U2 (.int 4))) (pr (fn 1 (pr U2 (.int 5))) (.int 0))))))<|ai fun F p0 p1=>by
 have hr0:(E.B F (fn _ (pr _ U3))=true)->E.B F (fn _ (pr _ (pr _ (pr _ (pr (fn 1 (pr U2 _)) _)))))=true:=fun s0=>apT s0
 simp_all
def aLE:=fb (AQ::wN::NR::U48) (fn 176 (pr (fn 1 (pr U2 (.int 16))) (pr (fn 1 (pr U2 (.int 17))) (pr (fn 1 (pr U2 (.int 18))) (pr (fn 1 (pr U2 (.int 19))) U55)))))<|am fun F p0 p1 p2 p3=>by
 have:=@dX F U3 U2
 have hr0:(E.I F _=1)->E.B F (fn _ (pr _ (pr _ (pr _ (pr _ (pr _ (pr _ (pr _ (pr _ (pr U4 (pr U5 (pr eR (pr eS _)))))))))))))=true:=fun s0=>a5j p3 s0
 simp only[aa]at *;grind
def aLF:=fb (U35::U48) (fn 176 (pr (fn 1 (pr U2 (.int 2))) (pr (fn 1 (pr U2 (.int 3))) (pr (fn 1 (pr U2 (.int 4))) (pr (fn 1 (pr U2 (.int 5))) U55)))))<|ai fun F p0 p1=>by
 have hr0:(E.I F _=0)->E.B F (fn _ (pr _ (pr _ (pr _ (pr _ (pr _ (pr _ (pr _ (pr _ (pr U4 (pr U5 (pr eR (pr eS _)))))))))))))=true:=fun s0=>a5i p1 s0
 simp only[aa]at *;grind
def aLG:=fb [gk] FW<|aj fun F p0=>by
 have:=@aV F U4 U5 eR eS cI
 simp only[aa]at *;grind
def aLH:=fb [gk] (.not NQ)<|aj fun F p0=>by
 have:=@aV F U4 U5 eR eS cI
 simp only[aa]at *;grind
def aLI:=fb [gk] (.not (cmp .lss eR (.int 0)))<|aj fun F p0=>by
 have:=@aV F U4 U5 eR eS cI
 simp only[aa]at *;grind
def aLJ:=fb [gk] (.not (cmp .lss eS (.int 0)))<|aj fun F p0=>by
 have:=@aV F U4 U5 eR eS cI
 simp only[aa]at *;grind
def aaa:=fb [gk] (.not (cmp .lss cI (.int 0)))<|aj fun F p0=>by
 have:=@aV F U4 U5 eR eS cI
 simp only[aa]at *;grind
def aLK:=fb F4 F5<|ag fun F p0 p1 p2=>by
 simp only[aa,ab]at *
 obtain⟨a,b,c⟩:=ae (E.I F bB+1)
 omega
def aLL:=fb [nO] F5<|aj fun F p0=>by
 simp only[aa,ab]at *
 obtain⟨a,b,c⟩:=ae (E.I F bB+1)
 omega
def aLM:=fb [nP] F5<|aj fun F p0=>by
 simp only[aa,ab]at *
 obtain⟨a,b,c⟩:=ae (E.I F bB+1)
 omega
def aLN:=fb (f9::wO::wP::wQ::AT) F5<|aw fun F p0 p1 p2 p3 p4=>by
 simp only[aa,ab]at *
 obtain⟨a,b,c⟩:=ae (E.I F bB+1)
 omega
def aLO:=fb [gk] (.not FX)<|aj fun F p0=>by
 have:=@aV F U4 U5 eR eS cI
 simp only[aa]at *;grind
def aLP:=fb [gk] U27<|aj fun F p0=>by
 have:=@aV F U4 U5 eR eS cI
 simp only[aa]at *;grind
def aLQ:=fb [gk] (.not (cmp .lss (.int 20) eR))<|aj fun F p0=>by
 have:=@aV F U4 U5 eR eS cI
 simp only[aa]at *;grind
def aLR:=fb [gk] (.not (cmp .lss (.int 20) eS))<|aj fun F p0=>by
 have:=@aV F U4 U5 eR eS cI
 simp only[aa]at *;grind
def aLS:=fb [gk] (.not (cmp .lss (.int 20) cI))<|aj fun F p0=>by
 have:=@aV F U4 U5 eR eS cI
 simp only[aa]at *;grind
def aLT:=fb F4 F6<|ag fun F p0 p1 p2=>by
 simp only[aa,ab]at *
 obtain⟨a,b,c⟩:=ae (E.I F bB+1)
 omega
def aLU:=fb [nO] F6<|aj fun F p0=>by
 simp only[aa,ab]at *
 obtain⟨a,b,c⟩:=ae (E.I F bB+1)
 omega
def aLV:=fb [nP] F6<|aj fun F p0=>by
 simp only[aa,ab]at *
 obtain⟨a,b,c⟩:=ae (E.I F bB+1)
 omega
def aLW:=fb U73 F6<|ag fun F p0 p1 p2=>by
 simp only[aa,ab]at *
 obtain⟨a,b,c⟩:=ae (E.I F bB+1)
 omega
def aLX:=fb ((.not f9)::wR::AU) (fn 176 (pr wS (pr wT (pr wU (pr wV (pr wW (pr (fn 10 (.int 0)) (pr (.int 4) AS))))))))<|ag fun F p0 p1 p2=>by
 have hr2:(E.I F _=E.I F _)->(E.I F _=E.I F _)->E.B F (fn _ (pr _ (pr _ (pr _ (pr _ (pr _ (pr _ (pr (.int 4) (pr (.int 0) _)))))))))=true:=fun s0 s1=>apo p2 s0 s1
 simp only[aa]at *;grind
def aLY:=fb [(.not f9),wX,wR] (fn 176 (pr wS (pr wT (pr wU (pr wV (pr wW (pr (var 31) (pr (.int 4) AS))))))))<|ag fun F p0 p1 p2=>by
 have hr2:(E.I F _=E.I F _)->(E.I F _=E.I F _)->E.B F (fn _ (pr _ (pr _ (pr _ (pr _ (pr _ (pr _ (pr (.int 4) (pr (.int 0) _)))))))))=true:=fun s0 s1=>apo p1 s0 s1
 simp only[aa]at *;grind
def aLZ:=fb F4 F7<|ag fun F p0 p1 p2=>by
 simp only[aa,ab]at *
 obtain⟨a,b,c⟩:=ae (E.I F bB+1)
 omega
def aL0:=fb [nO] F7<|aj fun F p0=>by
 simp only[aa,ab]at *
 obtain⟨a,b,c⟩:=ae (E.I F bB+1)
 omega
def aL1:=fb [nP] F7<|aj fun F p0=>by
 simp only[aa,ab]at *
 obtain⟨a,b,c⟩:=ae (E.I F bB+1)
 omega
def aL2:=fb (f9::AT) F7<|ai fun F p0 p1=>by
 simp only[aa,ab]at *
 obtain⟨a,b,c⟩:=ae (E.I F bB+1)
 omega
def aL3:=fb U96 (.not (cmp .lss (.ar .add .i64 ga (.int 1)) (.int 0)))<|ag fun F p0 p1 p2=>by
 have:=@aV F U4 U5 eR eS cI
 simp only[aa,ab]at *
 obtain⟨a,b,c⟩:=ae (E.I F ga+1)
 grind
def aL4:=fb ((.not pD)::NV::adV) (fn 183 (pr wY (pr wI (pr wK (pr wL (pr (fn 10 (.int 0)) adW))))))<|ag fun F p0 p1 p2=>by
 have hr2:(E.I F _=E.I F _)->E.B F (fn _ (pr _ (pr _ (pr _ (pr _ (pr _ (pr _ (pr _ (pr _ (pr _ (pr cI _)))))))))))=true:=fun s0=>a5y p2 s0
 simp only[aa]at *;grind
def aL5:=fb adX (.not (cmp .lss (.int 2147483648) AJ))<|ai fun F p0 p1=>by
 simp only[aa]at *;grind
def asI:=fb adY (.not (cmp .lss cI (.ar .add .i64 ga (.int 1))))<|am fun F p0 p1 p2 p3=>by
 simp only[aa,ab]at *
 obtain⟨a,b,c⟩:=ae (E.I F ga+1)
 omega
def asJ:=fb [(.not pD),adZ,NV] (fn 183 (pr wY (pr wI (pr wK (pr wL (pr (fn 40 AK) adW))))))<|ag fun F p0 p1 p2=>by
 have hr2:(E.I F _=E.I F _)->E.B F (fn _ (pr _ (pr _ (pr _ (pr _ (pr _ (pr _ (pr _ (pr _ (pr _ (pr cI _)))))))))))=true:=fun s0=>a5x p1 s0
 simp only[aa]at *;grind
def asK:=fb F4 FQ<|ag fun F p0 p1 p2=>by
 simp only[aa,ab]at *
 obtain⟨a,b,c⟩:=ae (E.I F bB+1)
 omega
def asL:=fb [nO] FQ<|aj fun F p0=>by
 simp only[aa,ab]at *
 obtain⟨a,b,c⟩:=ae (E.I F bB+1)
 omega
def asM:=fb [nP] FQ<|aj fun F p0=>by
 simp only[aa,ab]at *
 obtain⟨a,b,c⟩:=ae (E.I F bB+1)
 omega
def asN:=fb U73 FQ<|ag fun F p0 p1 p2=>by
 simp only[aa,ab]at *
 obtain⟨a,b,c⟩:=ae (E.I F bB+1)
 omega
def asO:=fb (tT::(fn 171 NK)::AU) nN<|ag fun F p0 p1 p2=>by
 have hr2:(E.I F _=0)->E.B F (fn _ (pr _ (pr cI _)))=true:=fun s0=>aps p2 p1 s0
 simp only[aa]at *;grind
def asP:=fb (f9::tT::(fn 170 (pr jF (pr jG (pr jH (pr jI (pr jJ (pr pB NK)))))))::pC) qW<|aw fun F p0 p1 p2 p3 p4=>by
 have:=@ay F bB (.int 1)
 have hr3:(E.I F _=0)->(E.I F _=E.I F _+1)->E.B F (fn _ (pr _ (pr _ (pr _ (pr _ (pr _ (pr _ (pr (.ar .add .i64 bB (.int 1)) _))))))))=true:=fun s0 s1=>TS p4 p2 s0 s1
 simp only[aa]at *;grind
def asQ:=fb (f9::tT::(fn 170 (pr jF (pr jG (pr jH (pr jI (pr jJ (pr (fn 10 (.int 0)) NK)))))))::pC) FT<|aw fun F p0 p1 p2 p3 p4=>by
 have:=@ay F bB (.int 1)
 have hr3:(E.I F _=0)->(E.I F _=E.I F _+1)->E.B F (fn _ (pr _ (pr _ (pr _ (pr _ (pr _ (pr _ (pr (.ar .add .i64 bB (.int 1)) _))))))))=true:=fun s0 s1=>TS p4 p2 s0 s1
 simp only[aa]at *;grind
def asR:=fb (nO::(fn 171 NL)::AU) nN<|ag fun F p0 p1 p2=>by
 have hr2:(E.I F _=1)->E.B F (fn _ (pr _ (pr cI _)))=true:=fun s0=>apt p2 p1 s0
 simp only[aa]at *;grind
def asS:=fb (f9::nO::(fn 170 (pr jF (pr jG (pr jH (pr jI (pr jJ (pr pB NL)))))))::pC) qW<|aw fun F p0 p1 p2 p3 p4=>by
 have:=@ay F bB (.int 1)
 have hr3:(E.I F _=1)->(E.I F _=E.I F _+1)->E.B F (fn _ (pr _ (pr _ (pr _ (pr _ (pr _ (pr _ (pr (.ar .add .i64 bB (.int 1)) _))))))))=true:=fun s0 s1=>TT p4 p2 s0 s1
 simp only[aa]at *;grind
def asT:=fb (f9::nO::(fn 170 (pr jF (pr jG (pr jH (pr jI (pr jJ (pr (fn 10 (.int 0)) NL)))))))::pC) FT<|aw fun F p0 p1 p2 p3 p4=>by
 have:=@ay F bB (.int 1)
 have hr3:(E.I F _=1)->(E.I F _=E.I F _+1)->E.B F (fn _ (pr _ (pr _ (pr _ (pr _ (pr _ (pr _ (pr (.ar .add .i64 bB (.int 1)) _))))))))=true:=fun s0 s1=>TT p4 p2 s0 s1
 simp only[aa]at *;grind
def asU:=fb (nP::(fn 171 NM)::AU) nN<|ag fun F p0 p1 p2=>by
 have hr2:(E.I F _=2)->E.B F (fn _ (pr _ (pr cI _)))=true:=fun s0=>apu p2 p1 s0
 simp only[aa]at *;grind
def asV:=fb (f9::nP::(fn 170 (pr jF (pr jG (pr jH (pr jI (pr jJ (pr pB NM)))))))::pC) qW<|aw fun F p0 p1 p2 p3 p4=>by
 have:=@ay F bB (.int 1)
 have hr3:(E.I F _=2)->(E.I F _=E.I F _+1)->E.B F (fn _ (pr _ (pr _ (pr _ (pr _ (pr _ (pr _ (pr (.ar .add .i64 bB (.int 1)) _))))))))=true:=fun s0 s1=>TU p4 p2 s0 s1
 simp only[aa]at *;grind
def asW:=fb (f9::nP::(fn 170 (pr jF (pr jG (pr jH (pr jI (pr jJ (pr (fn 10 (.int 0)) NM)))))))::pC) FT<|aw fun F p0 p1 p2 p3 p4=>by
 have:=@ay F bB (.int 1)
 have hr3:(E.I F _=2)->(E.I F _=E.I F _+1)->E.B F (fn _ (pr _ (pr _ (pr _ (pr _ (pr _ (pr _ (pr (.ar .add .i64 bB (.int 1)) _))))))))=true:=fun s0 s1=>TU p4 p2 s0 s1
 simp only[aa]at *;grind
def asX:=fb (f9::wO::wP::wQ::(fn 171 NN)::wR::pC) nN<|b7 fun F p0 p1 p2 p3 p4 p5 p6 p7=>by
 have hr2:(E.I F _=3)->E.B F (fn _ (pr _ (pr cI _)))=true:=fun s0=>apv p7 p4 s0
 simp only[aa]at *;grind
def asY:=fb (f9::wO::wP::wQ::(fn 170 (pr jF (pr jG (pr jH (pr jI (pr jJ (pr pB NN)))))))::wR::pC) qW<|b7 fun F p0 p1 p2 p3 p4 p5 p6 p7=>by
 have:=@ay F bB (.int 1)
 have hr3:(E.I F _=3)->(E.I F _=E.I F _+1)->E.B F (fn _ (pr _ (pr _ (pr _ (pr _ (pr _ (pr _ (pr (.ar .add .i64 bB (.int 1)) _))))))))=true:=fun s0 s1=>TV p7 p4 s0 s1
 simp only[aa]at *;grind
def asZ:=fb (f9::wO::wP::wQ::(fn 170 (pr jF (pr jG (pr jH (pr jI (pr jJ (pr (fn 10 (.int 0)) NN)))))))::wR::pC) FT<|b7 fun F p0 p1 p2 p3 p4 p5 p6 p7=>by
 have:=@ay F bB (.int 1)
 have hr3:(E.I F _=3)->(E.I F _=E.I F _+1)->E.B F (fn _ (pr _ (pr _ (pr _ (pr _ (pr _ (pr _ (pr (.ar .add .i64 bB (.int 1)) _))))))))=true:=fun s0 s1=>TV p7 p4 s0 s1
 simp only[aa]at *;grind
def as0:=fb (pD::(fn 171 NO)::ad2) nN<|am fun F p0 p1 p2 p3=>by
 have hr2:(0<=E.I F _)->(E.I F _<E.I F _)->E.B F (fn _ (pr _ (pr cI _)))=true:=fun s0 s1=>apr p3 p1 s0 s1
 simp only[aa]at *;grind
def as1:=fb (pD::(fn 170 (pr AL (pr AM (pr AN (pr AO (pr AP (pr (var 84) NO)))))))::ad3) ad5<|aw fun F p0 p1 p2 p3 p4=>by
 have:=@ay F ga (.int 1)
 have:=@aV F U4 U5 eR eS cI
 have hr3:(0<=E.I F _)->(E.I F _=E.I F _+1)->E.B F (fn _ (pr _ (pr _ (pr _ (pr _ (pr _ (pr _ (pr _ (pr (.ar .add .i64 ga (.int 1)) _)))))))))=true:=fun s0 s1=>TR p4 p1 s0 s1
 simp only[aa]at *;grind
def as2:=fb (pD::(fn 170 (pr AL (pr AM (pr AN (pr AO (pr AP (pr (fn 10 (.int 0)) NO)))))))::ad3) (fn 176 (pr AL (pr AM (pr AN (pr AO (pr AP (pr (fn 10 (.int 0)) ad4)))))))<|aw fun F p0 p1 p2 p3 p4=>by
 have:=@ay F ga (.int 1)
 have:=@aV F U4 U5 eR eS cI
 have hr3:(0<=E.I F _)->(E.I F _=E.I F _+1)->E.B F (fn _ (pr _ (pr _ (pr _ (pr _ (pr _ (pr _ (pr _ (pr (.ar .add .i64 ga (.int 1)) _)))))))))=true:=fun s0 s1=>TR p4 p1 s0 s1
 simp only[aa]at *;grind
def as3:=fb (pD::(fn 171 ad6)::ad7) nN<|am fun F p0 p1 p2 p3=>by
 have hr2:(0<=E.I F _)->(E.I F _<E.I F _)->E.B F (fn _ (pr _ (pr cI _)))=true:=fun s0 s1=>apr p2 p1 s0 s1
 simp only[aa]at *;grind
def as4:=fb (pD::(fn 170 (pr AL (pr AM (pr AN (pr AO (pr AP (pr (var 84) ad6)))))))::gk::ad7) ad5<|aw fun F p0 p1 p2 p3 p4=>by
 have:=@ay F ga (.int 1)
 have:=@aV F U4 U5 eR eS cI
 have hr3:(0<=E.I F _)->(E.I F _=E.I F _+1)->E.B F (fn _ (pr _ (pr _ (pr _ (pr _ (pr _ (pr _ (pr _ (pr (.ar .add .i64 ga (.int 1)) _)))))))))=true:=fun s0 s1=>TR p3 p1 s0 s1
 simp only[aa]at *;grind
def as5:=fb adX (.not (cmp .lss (.int 30) AJ))<|ai fun F p0 p1=>by
 simp only[aa]at *;grind
def as6:=fb U96 (cmp .lss (fn 7 (pr cI (.ar .add .i64 ga (.int 1)))) (fn 7 (pr cI ga)))<|ag fun F p0 p1 p2=>by
 have:=@aV F U4 U5 eR eS cI
 simp only[aa,ab]at *
 obtain⟨a,b,c⟩:=ae (E.I F ga+1)
 grind
def as7:=fb [tT,(fn 171 ad8),wX] nN<|ag fun F p0 p1 p2=>by
 have hr2:(E.I F _=0)->E.B F (fn _ (pr _ (pr cI _)))=true:=fun s0=>aps p2 p1 s0
 simp only[aa]at *;grind
def as8:=fb (f9::tT::(fn 170 (pr jF (pr jG (pr jH (pr jI (pr jJ (pr pB ad8)))))))::NP) qW<|aw fun F p0 p1 p2 p3 p4=>by
 have:=@ay F bB (.int 1)
 have hr3:(E.I F _=0)->(E.I F _=E.I F _+1)->E.B F (fn _ (pr _ (pr _ (pr _ (pr _ (pr _ (pr _ (pr (.ar .add .i64 bB (.int 1)) _))))))))=true:=fun s0 s1=>TS p3 p2 s0 s1
 simp only[aa]at *;grind
def as9:=fb [nO,(fn 171 ad9),wX] nN<|ag fun F p0 p1 p2=>by
 have hr2:(E.I F _=1)->E.B F (fn _ (pr _ (pr cI _)))=true:=fun s0=>apt p2 p1 s0
 simp only[aa]at *;grind
def ata:=fb (f9::nO::(fn 170 (pr jF (pr jG (pr jH (pr jI (pr jJ (pr pB ad9)))))))::NP) qW<|aw fun F p0 p1 p2 p3 p4=>by
 have:=@ay F bB (.int 1)
 have hr3:(E.I F _=1)->(E.I F _=E.I F _+1)->E.B F (fn _ (pr _ (pr _ (pr _ (pr _ (pr _ (pr _ (pr (.ar .add .i64 bB (.int 1)) _))))))))=true:=fun s0 s1=>TT p3 p2 s0 s1
 simp only[aa]at *;grind
def atb:=fb [nP,(fn 171 aea),wX] nN<|ag fun F p0 p1 p2=>by
 have hr2:(E.I F _=2)->E.B F (fn _ (pr _ (pr cI _)))=true:=fun s0=>apu p2 p1 s0
 simp only[aa]at *;grind
def atd:=fb (f9::nP::(fn 170 (pr jF (pr jG (pr jH (pr jI (pr jJ (pr pB aea)))))))::NP) qW<|aw fun F p0 p1 p2 p3 p4=>by
 have:=@ay F bB (.int 1)
 have hr3:(E.I F _=2)->(E.I F _=E.I F _+1)->E.B F (fn _ (pr _ (pr _ (pr _ (pr _ (pr _ (pr _ (pr (.ar .add .i64 bB (.int 1)) _))))))))=true:=fun s0 s1=>TU p3 p2 s0 s1
 simp only[aa]at *;grind
def ate:=fb (f9::wO::wP::wQ::(fn 171 aeb)::aec) nN<|b7 fun F p0 p1 p2 p3 p4 p5 p6 p7=>by
 have hr2:(E.I F _=3)->E.B F (fn _ (pr _ (pr cI _)))=true:=fun s0=>apv p5 p4 s0
 simp only[aa]at *;grind
def atf:=fb (f9::wO::wP::wQ::(fn 170 (pr jF (pr jG (pr jH (pr jI (pr jJ (pr pB aeb)))))))::aec) qW<|b7 fun F p0 p1 p2 p3 p4 p5 p6 p7=>by
 have:=@ay F bB (.int 1)
 have hr3:(E.I F _=3)->(E.I F _=E.I F _+1)->E.B F (fn _ (pr _ (pr _ (pr _ (pr _ (pr _ (pr _ (pr (.ar .add .i64 bB (.int 1)) _))))))))=true:=fun s0 s1=>TV p5 p4 s0 s1
 simp only[aa]at *;grind
def atg:=fb [(cmp .eql (fn 0 AK) AJ)] (cmp .eql (fn 0 (fn 40 AK)) AJ)<|aj fun F p0=>by
 simp_all[aZc]
def ath:=fb adY (.not (cmp .lss (fn 7 (pr cI (.ar .add .i64 ga (.int 1)))) (.int 0)))<|am fun F p0 p1 p2 p3=>by
 simp only[aa,ab]at *
 obtain⟨a,b,c⟩:=ae (E.I F ga+1)
 omega
def ati:=fb AR qX<|ai fun F p0 p1=>by
 have:=@dX F U3 U2
 simp only[aa,ab]at *;grind
def atj:=fb AR U41<|ai fun F p0 p1=>by
 have:=@dX F U3 U2
 simp only[aa,ab]at *;grind
def p63:List Fa:=[dv,aLt,aLu,aLv,aLw,aLx,aLy,aLz,aLA,aLB,aLC,aLD,aLE,aLF,aLG,aLH,aLI,aLJ,aaa,aLK,aLL,aLM,aLN,aLO,aLP,aLQ,aLR,aLS,aLT,aLU,aLV,aLW,aLX,aLY,aLZ,aL0,aL1,aL2,aL3,aL4,aL5,asI,asJ,asK,asL,asM,asN,asO,asP,asQ,asR,asS,asT,asU,asV,asW,asX,asY,asZ,as0,as1,as2,as3,as4,as5,as6,as7,as8,as9,ata,atb,atd,ate,atf,atg,ath,ati,atj]
theorem a3C:aI Tryz.prog (aX (a2c)):=sc p63 (aVX) amk ([]) (by kernel_rfl) (by kernel_rfl)
def aml:Nl:=nc a3C amk
end
end Go.Proofs.YtnnbmcfabojjjaaGreat.payPays
