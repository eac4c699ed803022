/-
  PayPays: contracts of functions, part 7.
-/
import Derived.Test.YtnnbmcfabojjjaaGreatPayPaysPartf
namespace Go.Proofs.YtnnbmcfabojjjaaGreat.payPays
open Go.ChangeShapes Go.WideShapes Go.ChangeAt Go.RowKit
open Go.SX
open Go.SX.E (fn pr cmp var)
set_option linter.unusedVariables false
set_option linter.unusedSimpArgs false
set_option maxRecDepth 100000
noncomputable section
abbrev N0:E:=var 0
abbrev N1:E:=fn 158 (pr N0 (fn 9 (pr N0 (.int 5))))
abbrev N2:E:=var 11
abbrev N3:E:=cmp .lss N2 (fn 9 (pr N0 (.int 5)))
abbrev N4:E:=cmp .lss N2 (.int 0)
abbrev N5:E:=.not N4
abbrev N6:E:=cmp .lss (.int 2147483648) (fn 9 (pr (fn 1 (pr N0 (fn 6 (pr (fn 8 (pr N2 (.int 5))) (.int 4))))) (.int 2)))
abbrev N7:E:=.not N6
abbrev N8:E:=.not (cmp .lss (fn 9 (pr N0 (.int 5))) N2)
abbrev N9:E:=cmp .eql N2 (.int 0)
abbrev N10:=[N9]
abbrev iM:E:=var 9
abbrev tC:E:=cmp .eql iM N2
abbrev Ap:E:=.not (cmp .lss iM (.int 1))
abbrev cb:E:=var 8
abbrev M4:E:=fn 181 (pr cb (pr N0 (fn 8 (pr N2 (.int 5)))))
abbrev Aq:E:=cmp .eql (fn 0 cb) (fn 8 (pr iM (.int 5)))
abbrev Fr:E:=var 12
abbrev N18:E:=pr (fn 28 (pr (pr Fr iM) cb)) N0
abbrev N19:E:=fn 187 N18
abbrev N20:E:=cmp .lss (.int 20) (fn 9 (pr N0 (.int 5)))
abbrev N21:E:=.not N20
abbrev N22:=N21::N10
abbrev N23:=N5::N22
abbrev Fs:=N3::N23
abbrev N25:E:=cmp .lss (.ar .add .i64 N2 (.int 1)) (.int 0)
abbrev N26:E:=.not N25
abbrev Ar:E:=var 10
abbrev M5:E:=fn 190 N0
abbrev N29:E:=cmp .lss (fn 9 (pr N0 (.int 5))) (.ar .add .i64 N2 (.int 1))
abbrev N30:E:=.not N29
abbrev As:=[N21]
abbrev N32:=Ap::As
abbrev N33:=tC::N32
abbrev N34:=N3::N33
abbrev N35:=N8::As
abbrev N36:=Ap::N35
abbrev N37:=tC::N36
abbrev N38:=N3::N37
abbrev N39:E:=pr N0 (fn 8 (pr (.ar .add .i64 N2 (.int 1)) (.int 5)))
abbrev N40:E:=cmp .lss (fn 7 (pr (fn 9 (pr N0 (.int 5))) (.ar .add .i64 N2 (.int 1)))) (fn 7 (pr (fn 9 (pr N0 (.int 5))) N2))
abbrev N41:E:=cmp .lss (fn 7 (pr (fn 9 (pr N0 (.int 5))) (.ar .add .i64 N2 (.int 1)))) (.int 0)
abbrev N42:E:=.not N41
abbrev M6:E:=fn 117 N0
abbrev fL:=[M6]
abbrev M7:E:=fn 116 N0
abbrev bm:E:=var 16
abbrev fM:E:=var 24
abbrev bF:E:=var 1
abbrev M8:List E:=[(fn 12 (pr N0 bF))]
abbrev N50:E:=cmp .lss cb (fn 0 N0)
abbrev N51:E:=cmp .lss cb (.int 0)
abbrev M9:E:=.not N51
abbrev N53:E:=cmp .lss (.int 100) (fn 0 N0)
abbrev N54:E:=.not N53
abbrev N55:=[N54]
abbrev N56:=M9::N55
abbrev N57:=N50::N56
abbrev N58:E:=cmp .lss (.ar .add .i64 cb (.int 1)) (.int 0)
abbrev N59:E:=.not N58
abbrev mt:E:=var 4
abbrev Na:List E:=[(fn 12 (pr mt iM))]
abbrev Nb:E:=cmp .lss bm (fn 9 (pr mt (.int 2)))
abbrev N63:E:=cmp .lss (fn 9 (pr mt (.int 2))) bm
abbrev N64:E:=.not N63
abbrev At:E:=.bool true
abbrev N66:E:=cmp .lss bm (.int 0)
abbrev N67:E:=.not N66
abbrev N68:E:=cmp .lss (.int 6) (fn 9 (pr mt (.int 2)))
abbrev N69:E:=.not N68
abbrev N70:=[N69]
abbrev N71:=N67::N70
abbrev N72:=Nb::N71
abbrev N73:E:=cmp .lss (.ar .add .i64 bm (.int 1)) (.int 0)
abbrev N74:E:=.not N73
abbrev N75:=N64::N71
abbrev N76:=Nb::N75
abbrev Nc:E:=fn 187 (pr bF N0)
abbrev Ft:E:=cmp .lss cb (fn 9 (pr N0 (.int 5)))
abbrev N79:E:=cmp .lss (fn 9 (pr N0 (.int 5))) cb
abbrev N80:E:=.not N79
abbrev N81:=[M9]
abbrev N82:=Ft::N81
abbrev Au:=Nc::N82
abbrev N84:=M9::As
abbrev N85:=Ft::N84
abbrev N86:=N80::N84
abbrev N87:=Ft::N86
abbrev Nd:E:=fn 189 (pr bF N0)
abbrev N89:E:=cmp .lss bm (fn 9 (pr (fn 1 (pr N0 (.int 0))) (.int 12)))
abbrev eP:=[Nd]
abbrev N91:=[N67]
abbrev Nf:=N89::N91
abbrev N93:=M6::Nf
abbrev N94:E:=cmp .lss fM (fn 9 (pr (fn 1 (pr N0 (.int 32))) (.int 2)))
abbrev N95:E:=cmp .lss fM (.int 0)
abbrev N96:E:=.not N95
abbrev N97:=[N96]
abbrev N98:=N94::N97
abbrev Fu:=M6::N98
abbrev dZ:E:=var 48
abbrev Fj:E:=cmp .lss dZ (.int 4)
abbrev acZ:E:=cmp .eql dZ (.int 0)
abbrev An:E:=cmp .eql dZ (.int 1)
abbrev Ao:E:=cmp .eql dZ (.int 2)
abbrev aPm:E:=cmp .lss dZ (.int 0)
abbrev aPn:E:=.not aPm
abbrev Fk:=[aPn]
abbrev Fl:E:=.not (cmp .lss (.ar .add .i64 dZ (.int 1)) (.int 0))
abbrev aPo:=acZ::Fk
abbrev M2:=Fj::aPo
abbrev aPp:E:=cmp .lss (.int 4) dZ
abbrev aPq:E:=.not aPp
abbrev aPr:=aPq::Fk
abbrev ac0:=Fj::aPr
abbrev Fm:E:=.not (cmp .lss (.int 4) (.ar .add .i64 dZ (.int 1)))
abbrev M3:E:=cmp .lss (fn 7 (pr (.int 4) (.ar .add .i64 dZ (.int 1)))) (fn 7 (pr (.int 4) dZ))
abbrev Fo:E:=.not (cmp .lss (fn 7 (pr (.int 4) (.ar .add .i64 dZ (.int 1)))) (.int 0))
abbrev i9:E:=var 32
abbrev aPs:E:=cmp .eql i9 (.int 0)
abbrev Fp:=[aPs]
abbrev aPt:E:=cmp .lss (.ar .add .i64 i9 (.int 1)) (.int 0)
abbrev ac1:E:=.not aPt
abbrev aPu:E:=cmp .eql i9 (.int 1)
abbrev Fq:=[aPu]
abbrev aPv:E:=cmp .lss (.int 2) (.ar .add .i64 i9 (.int 1))
abbrev ac2:E:=.not aPv
abbrev ac3:E:=cmp .lss (fn 7 (pr (.int 2) (.ar .add .i64 i9 (.int 1)))) (fn 7 (pr (.int 2) i9))
abbrev aPw:E:=cmp .lss (fn 7 (pr (.int 2) (.ar .add .i64 i9 (.int 1)))) (.int 0)
abbrev ac4:E:=.not aPw
def aHv:=fb [N1,N3,N5] N7<|ag fun F p0 p1 p2=>by
 have hr0:0<=E.I F _->E.I F _<E.I F _->E.I F (fn 9 (pr (fn 1 _) _))<=6:=fun h0 h1=>@TO F _ N2 _ p0 h0 h1
 simp only[aa]at *;grind
def aHw:=fb ((.not N3)::N8::N10) (fn 187 (pr (fn 30 (.int 0)) N0))<|ag fun F p0 p1 p2=>by
 have:=fun h0=>@a5F F (fn 30 (.int 0)) N0 rfl h0
 simp only[aa]at *;grind
def aHx:=fb [N1,N3,tC,Ap] N7<|am fun F p0 p1 p2 p3=>by
 have hr0:0<=E.I F _->E.I F _<E.I F _->E.I F (fn 9 (pr (fn 1 _) _))<=6:=fun h0 h1=>@TO F _ N2 _ p0 h0 h1
 simp only[aa]at *;grind
def aHy:=fb [(.not N3),M4,Aq,tC,N8] N19<|aw fun F p0 p1 p2 p3 p4=>by
 have:=fun h1 h2=>@apQ F _ _ _ (pr Fr iM) p1 h1 h2
 simp only[aa]at *;grind
def aHz:=fb Fs N26<|am fun F p0 p1 p2 p3=>by
 simp only[aa,ab]at *
 obtain⟨a,b,c⟩:=ae (E.I F N2+1)
 omega
def aHA:=fa ((fn 195 (fn 30 (.int 0))))<|fun F=>by
 rfl
def YO:=fb [(.not (cmp .lss Ar iM)),Ap] (.not (cmp .lss Ar (.int 0)))<|ai fun F p0 p1=>by
 simp only[aa]at *;grind
def aHB:=fb [(.not N3),M4,Aq,tC,N8,M5] (fn 195 (fn 28 (pr (pr Fr iM) cb)))<|bq fun F p0 p1 p2 p3 p4 p5=>by
 have h187:E.B F N19=true:=by
  have:=fun h1 h2=>@apQ F _ _ _ (pr Fr iM) p1 h1 h2
  simp only[aa]at *;grind
 grind[a5Q]
def aHC:=fb Fs N30<|am fun F p0 p1 p2 p3=>by
 simp only[aa,ab]at *
 obtain⟨a,b,c⟩:=ae (E.I F N2+1)
 omega
def aHD:=fb (N3::tC::As) (.not (cmp .lss (.int 2147483648) (fn 6 (pr iM (.int 1)))))<|ag fun F p0 p1 p2=>by
 simp only[aa]at *;grind
def aHE:=fb N34 N26<|am fun F p0 p1 p2 p3=>by
 simp only[aa,ab]at *
 obtain⟨a,b,c⟩:=ae (E.I F N2+1)
 omega
def aHF:=fa ((cmp .eql (fn 8 (pr (.int 1) (.int 5))) (.int 5)))<|fun F=>by
 rfl
def aHG:=fb N38 N30<|aw fun F p0 p1 p2 p3 p4=>by
 simp only[aa,ab]at *
 obtain⟨a,b,c⟩:=ae (E.I F N2+1)
 omega
def aHH:=fb (N3::N5::M5::N22) (fn 181 (pr (fn 23 (pr (fn 1 (pr N0 (fn 6 (pr (fn 8 (pr N2 (.int 5))) (.int 0))))) (fn 23 (pr (fn 1 (pr N0 (fn 6 (pr (fn 8 (pr N2 (.int 5))) (.int 1))))) (fn 23 (pr (fn 1 (pr N0 (fn 6 (pr (fn 8 (pr N2 (.int 5))) (.int 2))))) (fn 23 (pr (fn 1 (pr N0 (fn 6 (pr (fn 8 (pr N2 (.int 5))) (.int 3))))) (fn 23 (pr (fn 28 (pr (pr (var 13) (fn 9 (pr (fn 1 (pr N0 (fn 6 (pr (fn 8 (pr N2 (.int 5))) (.int 4))))) (.int 2)))) (fn 1 (pr N0 (fn 6 (pr (fn 8 (pr N2 (.int 5))) (.int 4))))))) (fn 10 (.int 0)))))))))))) N39))<|aw fun F p0 p1 p2 p3 p4=>by
 have:=@ay F N2 (.int 1)
 have hr2:E.I F _=0->E.I F _<E.I F _->E.I F _=(E.I F _+1)*5->E.B F (fn _ (pr (fn 23 (pr (fn 1 _) (fn 23 (pr (fn 1 _) (fn 23 (pr (fn 1 _) (fn 23 (pr (fn 1 _) (fn 23 (pr (fn 28 (pr _ (fn 1 _))) _)))))))))) _))=true:=fun h0 h3 h4=>@a5t F _ N2 (fn 8 (pr (.ar .add .i64 N2 (.int 1)) (.int 5))) p2 h0 h3 h4 (var 13) (fn 9 (pr (fn 1 (pr N0 (fn 6 (pr (fn 8 (pr N2 (.int 5))) (.int 4))))) (.int 2)))
 simp only[aa]at *;grind
def aHI:=fb (N3::Aq::N33) (cmp .eql (fn 6 (pr iM (.int 1))) (.ar .add .i64 N2 (.int 1)))<|aw fun F p0 p1 p2 p3 p4=>by
 simp only[aa,ab]at *
 obtain⟨a,b,c⟩:=ae (E.I F N2+1)
 omega
def aHJ:=fb Fs N40<|am fun F p0 p1 p2 p3=>by
 simp only[aa,ab]at *
 obtain⟨a,b,c⟩:=ae (E.I F N2+1)
 omega
def aHK:=fb [Aq] (cmp .eql (fn 6 (pr (fn 0 cb) (.int 5))) (fn 8 (pr (fn 6 (pr iM (.int 1))) (.int 5))))<|aj fun F p0=>by
 simp only[aa]at *;grind
def aHL:=fb Fs N42<|am fun F p0 p1 p2 p3=>by
 simp only[aa,ab]at *
 obtain⟨a,b,c⟩:=ae (E.I F N2+1)
 omega
def aHM:=fb (N3::M4::Aq::tC::Ap::M5::As) (fn 181 (pr (fn 3 (pr cb (fn 23 (pr (fn 1 (pr N0 (fn 6 (pr (fn 8 (pr N2 (.int 5))) (.int 0))))) (fn 23 (pr (fn 1 (pr N0 (fn 6 (pr (fn 8 (pr N2 (.int 5))) (.int 1))))) (fn 23 (pr (fn 1 (pr N0 (fn 6 (pr (fn 8 (pr N2 (.int 5))) (.int 2))))) (fn 23 (pr (fn 1 (pr N0 (fn 6 (pr (fn 8 (pr N2 (.int 5))) (.int 3))))) (fn 23 (pr (fn 28 (pr (pr (var 13) (fn 9 (pr (fn 1 (pr N0 (fn 6 (pr (fn 8 (pr N2 (.int 5))) (.int 4))))) (.int 2)))) (fn 1 (pr N0 (fn 6 (pr (fn 8 (pr N2 (.int 5))) (.int 4))))))) (fn 10 (.int 0)))))))))))))) N39))<|bL fun F p0 p1 p2 p3 p4 p5 p6=>by
 have:=@ay F N2 (.int 1)
 have hr2:0<=E.I F _->E.I F _=E.I F _*5->E.I F _=E.I F _*5->E.I F _<E.I F _->E.I F _=(E.I F _+1)*5->E.B F (fn _ (pr (fn 3 (pr _ (fn 23 (pr (fn 1 _) (fn 23 (pr (fn 1 _) (fn 23 (pr (fn 1 _) (fn 23 (pr (fn 1 _) (fn 23 (pr (fn 28 (pr _ (fn 1 _))) _)))))))))))) _))=true:=fun h0 h1 h2 h3 h4=>@a5u F _ _ N2 (fn 8 (pr (.ar .add .i64 N2 (.int 1)) (.int 5))) _ p1 p5 h0 h1 h2 h3 h4 (var 13) (fn 9 (pr (fn 1 (pr N0 (fn 6 (pr (fn 8 (pr N2 (.int 5))) (.int 4))))) (.int 2)))
 simp only[aa]at *;grind
def aHN:=fb N34 N40<|am fun F p0 p1 p2 p3=>by
 simp only[aa,ab]at *
 obtain⟨a,b,c⟩:=ae (E.I F N2+1)
 omega
def aHO:=fb N38 N42<|aw fun F p0 p1 p2 p3 p4=>by
 simp only[aa,ab]at *
 obtain⟨a,b,c⟩:=ae (E.I F N2+1)
 omega
def JD:List Fa:=[dv,aHv,aHw,aHx,aHy,aHz,aHA,YO,aHB,aHC,aHD,YH,aHE,aHF,aHG,aHH,aHI,aHJ,aHK,aHL,aHM,aHN,aHO]
theorem a3i:aI Tryz.prog (aX (a1E)):=sc JD (aVI) al2 (aZV) (by kernel_rfl) (by kernel_rfl)
def kV:Nl:=nc a3i al2
def LN:=fb fL (.not (cmp .lss (.int 2147483648) (fn 9 (pr (fn 1 (pr N0 (.int 0))) (.int 12)))))<|aj fun F p0=>by
 have:=ap p0
 simp only[aa]at *;omega
def LO:=fb fL (.not (cmp .lss (.int 2147483648) (fn 0 (fn 1 (pr N0 (.int 6))))))<|aj fun F p0=>by
 have:=ap p0
 simp only[aa]at *;omega
def LP:=fb fL (.not (cmp .lss (.int 2147483648) (fn 0 (fn 1 (pr N0 (.int 7))))))<|aj fun F p0=>by
 have:=ap p0
 simp only[aa]at *;omega
def LQ:=fb fL (.not (cmp .lss (.int 2147483648) (fn 0 (fn 1 (pr N0 (.int 8))))))<|aj fun F p0=>by
 have:=ap p0
 simp only[aa]at *;omega
def LR:=fb fL (.not (cmp .lss (.int 2147483648) (fn 0 (fn 1 (pr N0 (.int 9))))))<|aj fun F p0=>by
 have:=ap p0
 simp only[aa]at *;omega
def LS:=fb fL (.not (cmp .lss (.int 2147483648) (fn 0 (fn 1 (pr N0 (.int 20))))))<|aj fun F p0=>by
 have:=ap p0
 simp only[aa]at *;omega
def LU:=fb fL (.not (cmp .lss (.int 2147483648) (fn 0 (fn 1 (pr N0 (.int 21))))))<|aj fun F p0=>by
 have:=ap p0
 simp only[aa]at *;omega
def LV:=fb fL (.not (cmp .lss (.int 2147483648) (fn 0 (fn 1 (pr N0 (.int 22))))))<|aj fun F p0=>by
 have:=ap p0
 simp only[aa]at *;omega
def LW:=fb fL (.not (cmp .lss (.int 2147483648) (fn 0 (fn 1 (pr N0 (.int 23))))))<|aj fun F p0=>by
 have:=ap p0
 simp only[aa]at *;omega
def zK:=fb fL (fn 158 (pr (fn 1 (pr N0 (.int 29))) (fn 9 (pr (fn 1 (pr N0 (.int 29))) (.int 5)))))<|aj fun F p0=>by
 simp_all[dw]
def Eg:=fb [M7] (fn 190 (fn 1 (pr N0 (.int 29))))<|aj fun F p0=>by
 have:=apW p0 29 (by decide)
 omega
def zL:=fb fL (fn 158 (pr (fn 1 (pr N0 (.int 30))) (fn 9 (pr (fn 1 (pr N0 (.int 30))) (.int 5)))))<|aj fun F p0=>by
 simp_all[dw]
def Eh:=fb [M7] (fn 190 (fn 1 (pr N0 (.int 30))))<|aj fun F p0=>by
 have:=apW p0 30 (by decide)
 omega
def LX:=fb fL (.not (cmp .lss (.int 2147483648) (fn 0 (fn 1 (pr N0 (.int 31))))))<|aj fun F p0=>by
 have:=ap p0
 simp only[aa]at *;omega
def LY:=fb fL (.not (cmp .lss (.int 2147483648) (fn 9 (pr (fn 1 (pr N0 (.int 32))) (.int 2)))))<|aj fun F p0=>by
 have:=ap p0
 simp only[aa]at *;omega
def YS:=fb [M7,(fn 187 (pr Ar (fn 1 (pr N0 (.int 29))))),(fn 187 (pr N2 (fn 1 (pr N0 (.int 30)))))] (fn 189 (pr (dt [(fn 28 (pr (pr (var 14) (fn 9 (pr (fn 1 (pr N0 (.int 0))) (.int 12)))) (fn 1 (pr N0 (.int 0))))),(fn 1 (pr N0 (.int 1))),(fn 1 (pr N0 (.int 2))),(fn 1 (pr N0 (.int 3))),(fn 1 (pr N0 (.int 4))),(fn 1 (pr N0 (.int 5))),(fn 28 (pr (pr (var 15) (fn 0 (fn 1 (pr N0 (.int 6))))) (fn 1 (pr N0 (.int 6))))),(fn 28 (pr (pr bm (fn 0 (fn 1 (pr N0 (.int 7))))) (fn 1 (pr N0 (.int 7))))),(fn 28 (pr (pr (var 17) (fn 0 (fn 1 (pr N0 (.int 8))))) (fn 1 (pr N0 (.int 8))))),(fn 28 (pr (pr (var 18) (fn 0 (fn 1 (pr N0 (.int 9))))) (fn 1 (pr N0 (.int 9))))),(fn 1 (pr N0 (.int 10))),(fn 1 (pr N0 (.int 11))),(fn 1 (pr N0 (.int 12))),(fn 1 (pr N0 (.int 13))),(fn 1 (pr N0 (.int 14))),(fn 1 (pr N0 (.int 15))),(fn 1 (pr N0 (.int 16))),(fn 1 (pr N0 (.int 17))),(fn 1 (pr N0 (.int 18))),(fn 1 (pr N0 (.int 19))),(fn 28 (pr (pr (var 19) (fn 0 (fn 1 (pr N0 (.int 20))))) (fn 1 (pr N0 (.int 20))))),(fn 28 (pr (pr (var 20) (fn 0 (fn 1 (pr N0 (.int 21))))) (fn 1 (pr N0 (.int 21))))),(fn 28 (pr (pr (var 21) (fn 0 (fn 1 (pr N0 (.int 22))))) (fn 1 (pr N0 (.int 22))))),(fn 28 (pr (pr (var 22) (fn 0 (fn 1 (pr N0 (.int 23))))) (fn 1 (pr N0 (.int 23))))),(fn 1 (pr N0 (.int 24))),(fn 1 (pr N0 (.int 25))),(fn 1 (pr N0 (.int 26))),(fn 1 (pr N0 (.int 27))),(fn 1 (pr N0 (.int 28))),Ar,N2,(fn 28 (pr (pr (var 23) (fn 0 (fn 1 (pr N0 (.int 31))))) (fn 1 (pr N0 (.int 31))))),(fn 28 (pr (pr fM (fn 9 (pr (fn 1 (pr N0 (.int 32))) (.int 2)))) (fn 1 (pr N0 (.int 32))))),(fn 1 (pr N0 (.int 33))),(fn 1 (pr N0 (.int 34))),(fn 1 (pr N0 (.int 35))),(fn 1 (pr N0 (.int 36))),(fn 1 (pr N0 (.int 37)))]) N0))<|ag fun F p0 p1 p2=>by
 have h1:=@a5I F N0 [(fn 28 (pr (pr (var 14) (fn 9 (pr (fn 1 (pr N0 (.int 0))) (.int 12)))) (fn 1 (pr N0 (.int 0))))),(fn 1 (pr N0 (.int 1))),(fn 1 (pr N0 (.int 2))),(fn 1 (pr N0 (.int 3))),(fn 1 (pr N0 (.int 4))),(fn 1 (pr N0 (.int 5))),(fn 28 (pr (pr (var 15) (fn 0 (fn 1 (pr N0 (.int 6))))) (fn 1 (pr N0 (.int 6))))),(fn 28 (pr (pr bm (fn 0 (fn 1 (pr N0 (.int 7))))) (fn 1 (pr N0 (.int 7))))),(fn 28 (pr (pr (var 17) (fn 0 (fn 1 (pr N0 (.int 8))))) (fn 1 (pr N0 (.int 8))))),(fn 28 (pr (pr (var 18) (fn 0 (fn 1 (pr N0 (.int 9))))) (fn 1 (pr N0 (.int 9))))),(fn 1 (pr N0 (.int 10))),(fn 1 (pr N0 (.int 11))),(fn 1 (pr N0 (.int 12))),(fn 1 (pr N0 (.int 13))),(fn 1 (pr N0 (.int 14))),(fn 1 (pr N0 (.int 15))),(fn 1 (pr N0 (.int 16))),(fn 1 (pr N0 (.int 17))),(fn 1 (pr N0 (.int 18))),(fn 1 (pr N0 (.int 19))),(fn 28 (pr (pr (var 19) (fn 0 (fn 1 (pr N0 (.int 20))))) (fn 1 (pr N0 (.int 20))))),(fn 28 (pr (pr (var 20) (fn 0 (fn 1 (pr N0 (.int 21))))) (fn 1 (pr N0 (.int 21))))),(fn 28 (pr (pr (var 21) (fn 0 (fn 1 (pr N0 (.int 22))))) (fn 1 (pr N0 (.int 22))))),(fn 28 (pr (pr (var 22) (fn 0 (fn 1 (pr N0 (.int 23))))) (fn 1 (pr N0 (.int 23))))),(fn 1 (pr N0 (.int 24))),(fn 1 (pr N0 (.int 25))),(fn 1 (pr N0 (.int 26))),(fn 1 (pr N0 (.int 27))),(fn 1 (pr N0 (.int 28))),Ar,N2,(fn 28 (pr (pr (var 23) (fn 0 (fn 1 (pr N0 (.int 31))))) (fn 1 (pr N0 (.int 31))))),(fn 28 (pr (pr fM (fn 9 (pr (fn 1 (pr N0 (.int 32))) (.int 2)))) (fn 1 (pr N0 (.int 32))))),(fn 1 (pr N0 (.int 33))),(fn 1 (pr N0 (.int 34))),(fn 1 (pr N0 (.int 35))),(fn 1 (pr N0 (.int 36))),(fn 1 (pr N0 (.int 37)))] rfl;exact h1 (mP p0 0 rfl (by decide) rfl (eD 1 rfl (eD 2 rfl (eD 3 rfl (eD 4 rfl (eD 5 rfl (mP p0 6 rfl (by decide) rfl (mP p0 7 rfl (by decide) rfl (mP p0 8 rfl (by decide) rfl (mP p0 9 rfl (by decide) rfl (eD 10 rfl (eD 11 rfl (eD 12 rfl (eD 13 rfl (eD 14 rfl (eD 15 rfl (eD 16 rfl (eD 17 rfl (eD 18 rfl (eD 19 rfl (mP p0 20 rfl (by decide) rfl (mP p0 21 rfl (by decide) rfl (mP p0 22 rfl (by decide) rfl (mP p0 23 rfl (by decide) rfl (eD 24 rfl (eD 25 rfl (eD 26 rfl (eD 27 rfl (eD 28 rfl (ai0 29 rfl p1 (ai0 30 rfl p2 (mP p0 31 rfl (by decide) rfl (mP p0 32 rfl (by decide) rfl (eD 33 rfl (eD 34 rfl (eD 35 rfl (eD 36 rfl (eD 37 rfl trivial))))))))))))))))))))))))))))))))))))))
def p46:List Fa:=[dv,LN,LO,LP,LQ,LR,LS,LU,LV,LW,pd,zK,Eg,vY,zL,Eh,LX,LY,YS]
theorem a3j:aI Tryz.prog (aX (aoz)):=sc p46 ([]) kV (yw) (by kernel_rfl) (by kernel_rfl)
def al3:Nl:=nc a3j kV
def aHP:=fb M8 (cmp .eql (fn 0 N0) (fn 0 bF))<|aj fun F p0=>by
 have:=@ao0 F _ _ p0
 simp only[aa]at *;grind
def aHQ:=fb (N50::(.not (cmp .lss (fn 0 N0) cb))::M8) (cmp .lss cb (fn 0 bF))<|ag fun F p0 p1 p2=>by
 have:=@ao0 F _ _ p2
 simp_all
def aHR:=fb M8 (cmp .eql (fn 1 (pr N0 cb)) (fn 1 (pr bF cb)))<|aj fun F p0=>by
 have:=@kg F _ _ p0 cb
 simp only[aa]at *;grind
def aHS:=fb N57 N59<|ag fun F p0 p1 p2=>by
 simp only[aa,ab]at *
 obtain⟨a,b,c⟩:=ae (E.I F cb+1)
 omega
def aHT:=fb N57 (cmp .lss (fn 7 (pr (fn 0 N0) (.ar .add .i64 cb (.int 1)))) (fn 7 (pr (fn 0 N0) cb)))<|ag fun F p0 p1 p2=>by
 simp only[aa,ab]at *
 obtain⟨a,b,c⟩:=ae (E.I F cb+1)
 omega
def p47:List Fa:=[aHP,aHQ,aHR,aHS,Yn,aHT,Yo]
theorem a3k:aI Tryz.prog (aX (a1T)):=sc p47 (aVP) al3 ([]) (by kernel_rfl) (by kernel_rfl)
def al4:Nl:=nc a3k al3
def aHU:=fb Na (cmp .eql (fn 9 (pr mt (.int 2))) (fn 9 (pr iM (.int 2))))<|aj fun F p0=>by
 have:=@vL F _ _ p0 (.int 2)
 simp only[aa]at *;grind
def aHV:=fb (Nb::N64::Na) (cmp .lss bm (fn 9 (pr iM (.int 2))))<|ag fun F p0 p1 p2=>by
 have:=@vL F _ _ p2 (.int 2)
 simp_all
def aHW:=fb Na (.and (cmp .eql (fn 1 (pr mt (fn 6 (pr (fn 8 (pr bm (.int 2))) (.int 0))))) (fn 1 (pr iM (fn 6 (pr (fn 8 (pr bm (.int 2))) (.int 0)))))) (.and (cmp .eql (fn 1 (pr mt (fn 6 (pr (fn 8 (pr bm (.int 2))) (.int 1))))) (fn 1 (pr iM (fn 6 (pr (fn 8 (pr bm (.int 2))) (.int 1)))))) At))<|aj fun F p0=>by
 have:=@kg F _ _ p0 (fn 6 (pr (fn 8 (pr bm (.int 2))) (.int 0)))
 have:=@kg F _ _ p0 (fn 6 (pr (fn 8 (pr bm (.int 2))) (.int 1)))
 simp only[aa]at *;grind
def aHX:=fb N72 N74<|ag fun F p0 p1 p2=>by
 simp only[aa,ab]at *
 obtain⟨a,b,c⟩:=ae (E.I F bm+1)
 omega
def aHY:=fb N76 (.not (cmp .lss (fn 9 (pr mt (.int 2))) (.ar .add .i64 bm (.int 1))))<|am fun F p0 p1 p2 p3=>by
 simp only[aa,ab]at *
 obtain⟨a,b,c⟩:=ae (E.I F bm+1)
 omega
def aHZ:=fb N72 (cmp .lss (fn 7 (pr (fn 9 (pr mt (.int 2))) (.ar .add .i64 bm (.int 1)))) (fn 7 (pr (fn 9 (pr mt (.int 2))) bm)))<|ag fun F p0 p1 p2=>by
 simp only[aa,ab]at *
 obtain⟨a,b,c⟩:=ae (E.I F bm+1)
 omega
def aH0:=fb N76 (.not (cmp .lss (fn 7 (pr (fn 9 (pr mt (.int 2))) (.ar .add .i64 bm (.int 1)))) (.int 0)))<|am fun F p0 p1 p2 p3=>by
 simp only[aa,ab]at *
 obtain⟨a,b,c⟩:=ae (E.I F bm+1)
 omega
def p48:List Fa:=[aHU,aHV,aHW,aHX,aHY,aHZ,aH0]
theorem a3l:aI Tryz.prog (aX (a2g)):=sc p48 (aV3) al4 ([]) (by kernel_rfl) (by kernel_rfl)
def al6:Nl:=nc a3l al4
def aH1:=fb [Nc] (cmp .eql (fn 9 (pr N0 (.int 5))) (fn 9 (pr bF (.int 5))))<|aj fun F p0=>by
 have:=@apR F _ _ p0
 simp only[aa]at *;grind
def aH2:=fb [Nc,Ft,N80] (cmp .lss cb (fn 9 (pr bF (.int 5))))<|ag fun F p0 p1 p2=>by
 have:=@apR F _ _ p0
 simp_all
def aH3:=fb Au (cmp .eql (fn 1 (pr N0 (fn 6 (pr (fn 8 (pr cb (.int 5))) (.int 0))))) (fn 1 (pr bF (fn 6 (pr (fn 8 (pr cb (.int 5))) (.int 0))))))<|ag fun F p0 p1 p2=>by
 have hr1:0<=E.I F _->E.I F _<E.I F _->E.I F (fn 1 _)=E.I F (fn 1 _):=fun h0 h1=>@KT F _ _ cb p0 h0 h1 0 (by decide)
 simp only[aa]at *;grind
def aH4:=fb Au (cmp .eql (fn 1 (pr N0 (fn 6 (pr (fn 8 (pr cb (.int 5))) (.int 1))))) (fn 1 (pr bF (fn 6 (pr (fn 8 (pr cb (.int 5))) (.int 1))))))<|ag fun F p0 p1 p2=>by
 have hr1:0<=E.I F _->E.I F _<E.I F _->E.I F (fn 1 _)=E.I F (fn 1 _):=fun h0 h1=>@KT F _ _ cb p0 h0 h1 1 (by decide)
 simp only[aa]at *;grind
def aH5:=fb Au (cmp .eql (fn 1 (pr N0 (fn 6 (pr (fn 8 (pr cb (.int 5))) (.int 2))))) (fn 1 (pr bF (fn 6 (pr (fn 8 (pr cb (.int 5))) (.int 2))))))<|ag fun F p0 p1 p2=>by
 have hr1:0<=E.I F _->E.I F _<E.I F _->E.I F (fn 1 _)=E.I F (fn 1 _):=fun h0 h1=>@KT F _ _ cb p0 h0 h1 2 (by decide)
 simp only[aa]at *;grind
def aH6:=fb Au (cmp .eql (fn 1 (pr N0 (fn 6 (pr (fn 8 (pr cb (.int 5))) (.int 3))))) (fn 1 (pr bF (fn 6 (pr (fn 8 (pr cb (.int 5))) (.int 3))))))<|ag fun F p0 p1 p2=>by
 have hr1:0<=E.I F _->E.I F _<E.I F _->E.I F (fn 1 _)=E.I F (fn 1 _):=fun h0 h1=>@KT F _ _ cb p0 h0 h1 3 (by decide)
 simp only[aa]at *;grind
def aH7:=fb Au (fn 12 (pr (fn 1 (pr N0 (fn 6 (pr (fn 8 (pr cb (.int 5))) (.int 4))))) (fn 1 (pr bF (fn 6 (pr (fn 8 (pr cb (.int 5))) (.int 4)))))))<|ag fun F p0 p1 p2=>by
 have hr2:0<=E.I F _->E.I F _<E.I F _->E.B F (fn 12 (pr (fn 1 _) (fn 1 _)))=true:=fun h0 h1=>oQ (@TX F _ _ cb p0 h0 h1 4 (by decide))
 simp only[aa]at *;grind
def aH8:=fb (N1::N82) (.not (cmp .lss (.int 6) (fn 9 (pr (fn 1 (pr N0 (fn 6 (pr (fn 8 (pr cb (.int 5))) (.int 4))))) (.int 2)))))<|ag fun F p0 p1 p2=>by
 have hr2:0<=E.I F _->E.I F _<E.I F _->E.I F (fn 9 (pr (fn 1 _) _))<=6:=fun h0 h1=>@TO F _ cb _ p0 h0 h1
 simp only[aa]at *;grind
def aH9:=fb N85 N59<|ag fun F p0 p1 p2=>by
 simp only[aa,ab]at *
 obtain⟨a,b,c⟩:=ae (E.I F cb+1)
 omega
def aIa:=fb N87 (.not (cmp .lss (fn 9 (pr N0 (.int 5))) (.ar .add .i64 cb (.int 1))))<|am fun F p0 p1 p2 p3=>by
 simp only[aa,ab]at *
 obtain⟨a,b,c⟩:=ae (E.I F cb+1)
 omega
def aIb:=fb N85 (cmp .lss (fn 7 (pr (fn 9 (pr N0 (.int 5))) (.ar .add .i64 cb (.int 1)))) (fn 7 (pr (fn 9 (pr N0 (.int 5))) cb)))<|ag fun F p0 p1 p2=>by
 simp only[aa,ab]at *
 obtain⟨a,b,c⟩:=ae (E.I F cb+1)
 omega
def aIc:=fb N87 (.not (cmp .lss (fn 7 (pr (fn 9 (pr N0 (.int 5))) (.ar .add .i64 cb (.int 1)))) (.int 0)))<|am fun F p0 p1 p2 p3=>by
 simp only[aa,ab]at *
 obtain⟨a,b,c⟩:=ae (E.I F cb+1)
 omega
def p49:List Fa:=[aH1,aH2,aH3,aH4,aH5,aH6,aH7,aH8,aH9,aIa,aIb,aIc]
theorem a3m:aI Tryz.prog (aX (a1R)):=sc p49 (aVN) al6 ([]) (by kernel_rfl) (by kernel_rfl)
def al7:Nl:=nc a3m al6
def aId:=fb [Nd,N89,(.not (cmp .lss (fn 9 (pr (fn 1 (pr N0 (.int 0))) (.int 12))) bm))] (cmp .lss bm (fn 9 (pr (fn 1 (pr bF (.int 0))) (.int 12))))<|ag fun F p0 p1 p2=>by
 have hp0:=jw p0 0 (by rfl)
 have:=@vL F _ _ hp0 (.int 12)
 simp_all
def aIe:=fb eP (.and (cmp .eql (fn 1 (pr (fn 1 (pr N0 (.int 0))) (fn 6 (pr (fn 8 (pr bm (.int 12))) (.int 0))))) (fn 1 (pr (fn 1 (pr bF (.int 0))) (fn 6 (pr (fn 8 (pr bm (.int 12))) (.int 0)))))) (.and (cmp .eql (fn 1 (pr (fn 1 (pr N0 (.int 0))) (fn 6 (pr (fn 8 (pr bm (.int 12))) (.int 1))))) (fn 1 (pr (fn 1 (pr bF (.int 0))) (fn 6 (pr (fn 8 (pr bm (.int 12))) (.int 1)))))) (.and (cmp .eql (fn 1 (pr (fn 1 (pr N0 (.int 0))) (fn 6 (pr (fn 8 (pr bm (.int 12))) (.int 2))))) (fn 1 (pr (fn 1 (pr bF (.int 0))) (fn 6 (pr (fn 8 (pr bm (.int 12))) (.int 2)))))) (.and (cmp .eql (fn 1 (pr (fn 1 (pr N0 (.int 0))) (fn 6 (pr (fn 8 (pr bm (.int 12))) (.int 3))))) (fn 1 (pr (fn 1 (pr bF (.int 0))) (fn 6 (pr (fn 8 (pr bm (.int 12))) (.int 3)))))) (.and (cmp .eql (fn 1 (pr (fn 1 (pr N0 (.int 0))) (fn 6 (pr (fn 8 (pr bm (.int 12))) (.int 4))))) (fn 1 (pr (fn 1 (pr bF (.int 0))) (fn 6 (pr (fn 8 (pr bm (.int 12))) (.int 4)))))) (.and (cmp .eql (fn 1 (pr (fn 1 (pr N0 (.int 0))) (fn 6 (pr (fn 8 (pr bm (.int 12))) (.int 5))))) (fn 1 (pr (fn 1 (pr bF (.int 0))) (fn 6 (pr (fn 8 (pr bm (.int 12))) (.int 5)))))) (.and (cmp .eql (fn 1 (pr (fn 1 (pr N0 (.int 0))) (fn 6 (pr (fn 8 (pr bm (.int 12))) (.int 6))))) (fn 1 (pr (fn 1 (pr bF (.int 0))) (fn 6 (pr (fn 8 (pr bm (.int 12))) (.int 6)))))) (.and (cmp .eql (fn 1 (pr (fn 1 (pr N0 (.int 0))) (fn 6 (pr (fn 8 (pr bm (.int 12))) (.int 7))))) (fn 1 (pr (fn 1 (pr bF (.int 0))) (fn 6 (pr (fn 8 (pr bm (.int 12))) (.int 7)))))) (.and (cmp .eql (fn 1 (pr (fn 1 (pr N0 (.int 0))) (fn 6 (pr (fn 8 (pr bm (.int 12))) (.int 8))))) (fn 1 (pr (fn 1 (pr bF (.int 0))) (fn 6 (pr (fn 8 (pr bm (.int 12))) (.int 8)))))) (.and (.iff (fn 1 (pr (fn 1 (pr N0 (.int 0))) (fn 6 (pr (fn 8 (pr bm (.int 12))) (.int 9))))) (fn 1 (pr (fn 1 (pr bF (.int 0))) (fn 6 (pr (fn 8 (pr bm (.int 12))) (.int 9)))))) (.and (.iff (fn 1 (pr (fn 1 (pr N0 (.int 0))) (fn 6 (pr (fn 8 (pr bm (.int 12))) (.int 10))))) (fn 1 (pr (fn 1 (pr bF (.int 0))) (fn 6 (pr (fn 8 (pr bm (.int 12))) (.int 10)))))) (.and (.iff (fn 1 (pr (fn 1 (pr N0 (.int 0))) (fn 6 (pr (fn 8 (pr bm (.int 12))) (.int 11))))) (fn 1 (pr (fn 1 (pr bF (.int 0))) (fn 6 (pr (fn 8 (pr bm (.int 12))) (.int 11)))))) At))))))))))))<|aj fun F p0=>by
 have hp0:=jw p0 0 (by rfl)
 have:=@kg F _ _ hp0 (fn 6 (pr (fn 8 (pr bm (.int 12))) (.int 0)))
 have:=@kg F _ _ hp0 (fn 6 (pr (fn 8 (pr bm (.int 12))) (.int 1)))
 have:=@kg F _ _ hp0 (fn 6 (pr (fn 8 (pr bm (.int 12))) (.int 2)))
 have:=@kg F _ _ hp0 (fn 6 (pr (fn 8 (pr bm (.int 12))) (.int 3)))
 have:=@kg F _ _ hp0 (fn 6 (pr (fn 8 (pr bm (.int 12))) (.int 4)))
 have:=@kg F _ _ hp0 (fn 6 (pr (fn 8 (pr bm (.int 12))) (.int 5)))
 have:=@kg F _ _ hp0 (fn 6 (pr (fn 8 (pr bm (.int 12))) (.int 6)))
 have:=@kg F _ _ hp0 (fn 6 (pr (fn 8 (pr bm (.int 12))) (.int 7)))
 have:=@kg F _ _ hp0 (fn 6 (pr (fn 8 (pr bm (.int 12))) (.int 8)))
 have:=@TM F _ _ hp0 (fn 6 (pr (fn 8 (pr bm (.int 12))) (.int 9)))
 have:=@TM F _ _ hp0 (fn 6 (pr (fn 8 (pr bm (.int 12))) (.int 10)))
 have:=@TM F _ _ hp0 (fn 6 (pr (fn 8 (pr bm (.int 12))) (.int 11)))
 simp only[aa]at *;grind
def aIf:=fb N93 N74<|ag fun F p0 p1 p2=>by
 have:=ap p0
 simp only[aa,ab]at *
 obtain⟨a,b,c⟩:=ae (E.I F bm+1)
 omega
def aIg:=fb Nf (.not (cmp .lss (fn 9 (pr (fn 1 (pr N0 (.int 0))) (.int 12))) (.ar .add .i64 bm (.int 1))))<|ai fun F p0 p1=>by
 simp only[aa,ab]at *
 obtain⟨a,b,c⟩:=ae (E.I F bm+1)
 omega
def aIh:=fb N93 (cmp .lss (fn 7 (pr (fn 9 (pr (fn 1 (pr N0 (.int 0))) (.int 12))) (.ar .add .i64 bm (.int 1)))) (fn 7 (pr (fn 9 (pr (fn 1 (pr N0 (.int 0))) (.int 12))) bm)))<|ag fun F p0 p1 p2=>by
 have:=ap p0
 simp only[aa,ab]at *
 obtain⟨a,b,c⟩:=ae (E.I F bm+1)
 omega
def aIi:=fb Nf (.not (cmp .lss (fn 7 (pr (fn 9 (pr (fn 1 (pr N0 (.int 0))) (.int 12))) (.ar .add .i64 bm (.int 1)))) (.int 0)))<|ai fun F p0 p1=>by
 simp only[aa,ab]at *
 obtain⟨a,b,c⟩:=ae (E.I F bm+1)
 omega
def aY3:List Fa:=[aId,aIe,aIf,aIg,aIh,aIi]
theorem aWU:BodyOk Tryz.prog (HM (some (hO 0 16))) (hO 0 16) (iY 0 16 5 fH).less (iY 0 16 5 fH).tmps {(iY 0 16 5 fH).st with pc:=(iY 0 16 5 fH).st.pc}:=
 kG good (facts:=fl aY3) (gU _) (anns:=[]) (iE _ (by kernel_rfl)) (nats:=al7.l) al7.h (n:=3000) (by kernel_rfl) (by kernel_rfl)
theorem aWT:BodyOk Tryz.prog (HM (some (hO 0 16))) (hO 0 16) (iY 0 16 5 fH).less (iY 0 16 5 fH).tmps (iY 0 16 5 fH).st:=aWU
theorem aZw:eh Tryz.prog (HM (some (hO 0 16))):=rX rfl (by kernel_rfl) (by
 intro τ hτ;rcases List.mem_cons.1 hτ with rfl|hτ
 ·exact aWT
 cases hτ)
def aIj:=fb [Nd,N94,(.not (cmp .lss (fn 9 (pr (fn 1 (pr N0 (.int 32))) (.int 2))) fM))] (cmp .lss fM (fn 9 (pr (fn 1 (pr bF (.int 32))) (.int 2))))<|ag fun F p0 p1 p2=>by
 have hp0:=jw p0 32 (by rfl)
 have:=@vL F _ _ hp0 (.int 2)
 simp_all
def aIk:=fb eP (.and (cmp .eql (fn 1 (pr (fn 1 (pr N0 (.int 32))) (fn 6 (pr (fn 8 (pr fM (.int 2))) (.int 0))))) (fn 1 (pr (fn 1 (pr bF (.int 32))) (fn 6 (pr (fn 8 (pr fM (.int 2))) (.int 0)))))) (.and (cmp .eql (fn 1 (pr (fn 1 (pr N0 (.int 32))) (fn 6 (pr (fn 8 (pr fM (.int 2))) (.int 1))))) (fn 1 (pr (fn 1 (pr bF (.int 32))) (fn 6 (pr (fn 8 (pr fM (.int 2))) (.int 1)))))) At))<|aj fun F p0=>by
 have hp0:=jw p0 32 (by rfl)
 have:=@kg F _ _ hp0 (fn 6 (pr (fn 8 (pr fM (.int 2))) (.int 0)))
 have:=@kg F _ _ hp0 (fn 6 (pr (fn 8 (pr fM (.int 2))) (.int 1)))
 simp only[aa]at *;grind
def aIl:=fb Fu (.not (cmp .lss (.ar .add .i64 fM (.int 1)) (.int 0)))<|ag fun F p0 p1 p2=>by
 have:=ap p0
 simp only[aa,ab]at *
 obtain⟨a,b,c⟩:=ae (E.I F fM+1)
 omega
def aIm:=fb Fu (.not (cmp .lss (fn 9 (pr (fn 1 (pr N0 (.int 32))) (.int 2))) (.ar .add .i64 fM (.int 1))))<|ag fun F p0 p1 p2=>by
 simp only[aa,ab]at *
 obtain⟨a,b,c⟩:=ae (E.I F fM+1)
 omega
def aIn:=fb Fu (cmp .lss (fn 7 (pr (fn 9 (pr (fn 1 (pr N0 (.int 32))) (.int 2))) (.ar .add .i64 fM (.int 1)))) (fn 7 (pr (fn 9 (pr (fn 1 (pr N0 (.int 32))) (.int 2))) fM)))<|ag fun F p0 p1 p2=>by
 have:=ap p0
 simp only[aa,ab]at *
 obtain⟨a,b,c⟩:=ae (E.I F fM+1)
 omega
def aIo:=fb Fu (.not (cmp .lss (fn 7 (pr (fn 9 (pr (fn 1 (pr N0 (.int 32))) (.int 2))) (.ar .add .i64 fM (.int 1)))) (.int 0)))<|ag fun F p0 p1 p2=>by
 simp only[aa,ab]at *
 obtain⟨a,b,c⟩:=ae (E.I F fM+1)
 omega
def aY4:List Fa:=[aIj,aIk,aIl,aIm,aIn,aIo]
theorem aWW:BodyOk Tryz.prog (HN (some (hO 2 24))) (hO 2 24) (iY 2 24 6 iT).less (iY 2 24 6 iT).tmps {(iY 2 24 6 iT).st with pc:=(iY 2 24 6 iT).st.pc}:=
 kG good (facts:=fl aY4) (gU _) (anns:=[]) (iE _ (by kernel_rfl)) (nats:=al7.l) al7.h (n:=3000) (by kernel_rfl) (by kernel_rfl)
theorem aWV:BodyOk Tryz.prog (HN (some (hO 2 24))) (hO 2 24) (iY 2 24 6 iT).less (iY 2 24 6 iT).tmps (iY 2 24 6 iT).st:=aWW
theorem aZx:eh Tryz.prog (HN (some (hO 2 24))):=rX rfl (by kernel_rfl) (by
 intro τ hτ;rcases List.mem_cons.1 hτ with rfl|hτ
 ·exact aWV
 cases hτ)
def aIp:=fb eP (fn 12 (pr (fn 1 (pr N0 (.int 6))) (fn 1 (pr bF (.int 6)))))<|aj fun F p0=>by
 have hp0:=jw p0 6 (by rfl);grind[oQ]
def aIq:=fb eP (fn 12 (pr (fn 1 (pr N0 (.int 7))) (fn 1 (pr bF (.int 7)))))<|aj fun F p0=>by
 have hp0:=jw p0 7 (by rfl);grind[oQ]
def aIr:=fb eP (fn 12 (pr (fn 1 (pr N0 (.int 8))) (fn 1 (pr bF (.int 8)))))<|aj fun F p0=>by
 have hp0:=jw p0 8 (by rfl);grind[oQ]
def aIs:=fb eP (fn 12 (pr (fn 1 (pr N0 (.int 9))) (fn 1 (pr bF (.int 9)))))<|aj fun F p0=>by
 have hp0:=jw p0 9 (by rfl);grind[oQ]
def aIt:=fb fL (.not (cmp .lss (.int 100) (fn 0 (fn 1 (pr N0 (.int 6))))))<|aj fun F p0=>by
 have:=ap p0
 simp only[aa]at *;grind
def aIu:=fb fL (.not (cmp .lss (.int 100) (fn 0 (fn 1 (pr N0 (.int 7))))))<|aj fun F p0=>by
 have:=ap p0
 simp only[aa]at *;grind
def aIv:=fb fL (.not (cmp .lss (.int 100) (fn 0 (fn 1 (pr N0 (.int 8))))))<|aj fun F p0=>by
 have:=ap p0
 simp only[aa]at *;grind
def aIw:=fb fL (.not (cmp .lss (.int 100) (fn 0 (fn 1 (pr N0 (.int 9))))))<|aj fun F p0=>by
 have:=ap p0
 simp only[aa]at *;grind
def YU:=fb (Fj::(.not acZ)::(.not An)::(.not Ao)::Fk) Fl<|aw fun F p0 p1 p2 p3 p4=>by
 simp only[aa,ab]at *
 obtain⟨a,b,c⟩:=ae (E.I F dZ+1)
 omega
def YV:=fb [Ao] Fl<|aj fun F p0=>by
 simp only[aa,ab]at *
 obtain⟨a,b,c⟩:=ae (E.I F dZ+1)
 omega
def YW:=fb [An] Fl<|aj fun F p0=>by
 simp only[aa,ab]at *
 obtain⟨a,b,c⟩:=ae (E.I F dZ+1)
 omega
def YX:=fb M2 Fl<|ag fun F p0 p1 p2=>by
 simp only[aa,ab]at *
 obtain⟨a,b,c⟩:=ae (E.I F dZ+1)
 omega
def YY:=fb ac0 Fm<|ag fun F p0 p1 p2=>by
 simp only[aa,ab]at *
 obtain⟨a,b,c⟩:=ae (E.I F dZ+1)
 omega
def YZ:=fb [Ao] Fm<|aj fun F p0=>by
 simp only[aa,ab]at *
 obtain⟨a,b,c⟩:=ae (E.I F dZ+1)
 omega
def Za:=fb [An] Fm<|aj fun F p0=>by
 simp only[aa,ab]at *
 obtain⟨a,b,c⟩:=ae (E.I F dZ+1)
 omega
def Zb:=fb M2 Fm<|ag fun F p0 p1 p2=>by
 simp only[aa,ab]at *
 obtain⟨a,b,c⟩:=ae (E.I F dZ+1)
 omega
def Zc:=fb (Fj::Fk) M3<|ai fun F p0 p1=>by
 simp only[aa,ab]at *
 obtain⟨a,b,c⟩:=ae (E.I F dZ+1)
 omega
def Zd:=fb [Ao] M3<|aj fun F p0=>by
 simp only[aa,ab]at *
 obtain⟨a,b,c⟩:=ae (E.I F dZ+1)
 omega
def Ze:=fb [An] M3<|aj fun F p0=>by
 simp only[aa,ab]at *
 obtain⟨a,b,c⟩:=ae (E.I F dZ+1)
 omega
def Zf:=fb ac0 Fo<|ag fun F p0 p1 p2=>by
 simp only[aa,ab]at *
 obtain⟨a,b,c⟩:=ae (E.I F dZ+1)
 omega
def Zg:=fb [Ao] Fo<|aj fun F p0=>by
 simp only[aa,ab]at *
 obtain⟨a,b,c⟩:=ae (E.I F dZ+1)
 omega
def Zh:=fb [An] Fo<|aj fun F p0=>by
 simp only[aa,ab]at *
 obtain⟨a,b,c⟩:=ae (E.I F dZ+1)
 omega
def Zi:=fb M2 Fo<|ag fun F p0 p1 p2=>by
 simp only[aa,ab]at *
 obtain⟨a,b,c⟩:=ae (E.I F dZ+1)
 omega
def aY5:List Fa:=[aIp,aIq,aIr,aIs,aIt,aIu,aIv,aIw,YU,YV,YW,YX,YY,YZ,Za,Zb,Zc,Zd,Ze,Zf,Zg,Zh,Zi]
theorem aWY:BodyOk Tryz.prog (xr (some oY)) oY (iZ 0).less (iZ 0).tmps {(iZ 0).st with pc:=(iZ 0).st.pc}:=
 kG good (facts:=fl aY5) (gU _) (anns:=[]) (iE _ (by kernel_rfl)) (nats:=al7.l) al7.h (n:=3000) (by kernel_rfl) (by kernel_rfl)
theorem aWX:BodyOk Tryz.prog (xr (some oY)) oY (iZ 0).less (iZ 0).tmps (iZ 0).st:=aWY
def aIx:=fb eP (fn 12 (pr (fn 1 (pr N0 (.int 20))) (fn 1 (pr bF (.int 20)))))<|aj fun F p0=>by
 have hp0:=jw p0 20 (by rfl);grind[oQ]
def aIy:=fb eP (fn 12 (pr (fn 1 (pr N0 (.int 21))) (fn 1 (pr bF (.int 21)))))<|aj fun F p0=>by
 have hp0:=jw p0 21 (by rfl);grind[oQ]
def aIz:=fb eP (fn 12 (pr (fn 1 (pr N0 (.int 22))) (fn 1 (pr bF (.int 22)))))<|aj fun F p0=>by
 have hp0:=jw p0 22 (by rfl);grind[oQ]
def aIA:=fb eP (fn 12 (pr (fn 1 (pr N0 (.int 23))) (fn 1 (pr bF (.int 23)))))<|aj fun F p0=>by
 have hp0:=jw p0 23 (by rfl);grind[oQ]
def aIB:=fb fL (.not (cmp .lss (.int 100) (fn 0 (fn 1 (pr N0 (.int 20))))))<|aj fun F p0=>by
 have:=ap p0
 simp only[aa]at *;grind
def aIC:=fb fL (.not (cmp .lss (.int 100) (fn 0 (fn 1 (pr N0 (.int 21))))))<|aj fun F p0=>by
 have:=ap p0
 simp only[aa]at *;grind
def aID:=fb fL (.not (cmp .lss (.int 100) (fn 0 (fn 1 (pr N0 (.int 22))))))<|aj fun F p0=>by
 have:=ap p0
 simp only[aa]at *;grind
def aIE:=fb fL (.not (cmp .lss (.int 100) (fn 0 (fn 1 (pr N0 (.int 23))))))<|aj fun F p0=>by
 have:=ap p0
 simp only[aa]at *;grind
def aY6:List Fa:=[aIx,aIy,aIz,aIA,aIB,aIC,aID,aIE,YU,YV,YW,YX,YY,YZ,Za,Zb,Zc,Zd,Ze,Zf,Zg,Zh,Zi]
theorem aW0:BodyOk Tryz.prog (xr (some oY)) oY (iZ 1).less (iZ 1).tmps {(iZ 1).st with pc:=(iZ 1).st.pc}:=
 kG good (facts:=fl aY6) (gU _) (anns:=[]) (iE _ (by kernel_rfl)) (nats:=al7.l) al7.h (n:=3000) (by kernel_rfl) (by kernel_rfl)
theorem aWZ:BodyOk Tryz.prog (xr (some oY)) oY (iZ 1).less (iZ 1).tmps (iZ 1).st:=aW0
theorem aZy:eh Tryz.prog (xr (some oY)):=rX rfl (by kernel_rfl) (by
 intro τ hτ;rcases List.mem_cons.1 hτ with rfl|hτ
 ·exact aWX
 rcases List.mem_cons.1 hτ with rfl|hτ
 ·exact aWZ
 cases hτ)
def ain:List Ann:=(xr (some oY))::[]
theorem aWe:∀x∈ain,eh Tryz.prog x:=by
 intro x hx;rcases List.mem_cons.1 hx with rfl|hx
 ·exact aZy
 exact iE [] (by kernel_rfl) x hx
def aIF:=fb eP (cmp .eql (fn 1 (pr N0 (.int 28))) (fn 1 (pr bF (.int 28))))<|aj fun F p0=>by
 have hi28:=gH p0 28 (by decide) rfl rfl rfl;simp only[aa]at *;grind
def aIG:=fb Fp ac1<|aj fun F p0=>by
 simp only[aa,ab]at *
 obtain⟨a,b,c⟩:=ae (E.I F i9+1)
 omega
def aIH:=fb Fq ac1<|aj fun F p0=>by
 simp only[aa,ab]at *
 obtain⟨a,b,c⟩:=ae (E.I F i9+1)
 omega
def aII:=fb eP (cmp .eql (fn 1 (pr N0 (.int 27))) (fn 1 (pr bF (.int 27))))<|aj fun F p0=>by
 have hi27:=gH p0 27 (by decide) rfl rfl rfl;simp only[aa]at *;grind
def aIJ:=fb eP (.iff (fn 1 (pr N0 (.int 26))) (fn 1 (pr bF (.int 26))))<|aj fun F p0=>by
 have hb26:=zk p0 26 (by decide);simp_all
def aIK:=fb eP (.iff (fn 1 (pr N0 (.int 25))) (fn 1 (pr bF (.int 25))))<|aj fun F p0=>by
 have hb25:=zk p0 25 (by decide);simp_all
def aIL:=fb eP (.iff (fn 1 (pr N0 (.int 24))) (fn 1 (pr bF (.int 24))))<|aj fun F p0=>by
 have hb24:=zk p0 24 (by decide);simp_all
def aIM:=fb eP (.and (cmp .eql (fn 1 (pr N0 (.int 16))) (fn 1 (pr bF (.int 16)))) (.and (cmp .eql (fn 1 (pr N0 (.int 17))) (fn 1 (pr bF (.int 17)))) (.and (cmp .eql (fn 1 (pr N0 (.int 18))) (fn 1 (pr bF (.int 18)))) (.and (cmp .eql (fn 1 (pr N0 (.int 19))) (fn 1 (pr bF (.int 19)))) At))))<|aj fun F p0=>by
 have hi16:=gH p0 16 (by decide) rfl rfl rfl;have hi17:=gH p0 17 (by decide) rfl rfl rfl;have hi18:=gH p0 18 (by decide) rfl rfl rfl;have hi19:=gH p0 19 (by decide) rfl rfl rfl;simp only[aa]at *;grind
def aIN:=fb eP (cmp .eql (fn 1 (pr N0 (.int 15))) (fn 1 (pr bF (.int 15))))<|aj fun F p0=>by
 have hi15:=gH p0 15 (by decide) rfl rfl rfl;simp only[aa]at *;grind
def aIO:=fb eP (cmp .eql (fn 1 (pr N0 (.int 14))) (fn 1 (pr bF (.int 14))))<|aj fun F p0=>by
 have hi14:=gH p0 14 (by decide) rfl rfl rfl;simp only[aa]at *;grind
def aIP:=fb eP (cmp .eql (fn 1 (pr N0 (.int 13))) (fn 1 (pr bF (.int 13))))<|aj fun F p0=>by
 have hi13:=gH p0 13 (by decide) rfl rfl rfl;simp only[aa]at *;grind
def aIQ:=fb eP (.iff (fn 1 (pr N0 (.int 12))) (fn 1 (pr bF (.int 12))))<|aj fun F p0=>by
 have hb12:=zk p0 12 (by decide);simp_all
def aIR:=fb eP (.iff (fn 1 (pr N0 (.int 11))) (fn 1 (pr bF (.int 11))))<|aj fun F p0=>by
 have hb11:=zk p0 11 (by decide);simp_all
def aIS:=fb eP (.iff (fn 1 (pr N0 (.int 10))) (fn 1 (pr bF (.int 10))))<|aj fun F p0=>by
 have hb10:=zk p0 10 (by decide);simp_all
def aIT:=fb eP (.and (cmp .eql (fn 1 (pr N0 (.int 2))) (fn 1 (pr bF (.int 2)))) (.and (cmp .eql (fn 1 (pr N0 (.int 3))) (fn 1 (pr bF (.int 3)))) (.and (cmp .eql (fn 1 (pr N0 (.int 4))) (fn 1 (pr bF (.int 4)))) (.and (cmp .eql (fn 1 (pr N0 (.int 5))) (fn 1 (pr bF (.int 5)))) At))))<|aj fun F p0=>by
 have hi2:=gH p0 2 (by decide) rfl rfl rfl;have hi3:=gH p0 3 (by decide) rfl rfl rfl;have hi4:=gH p0 4 (by decide) rfl rfl rfl;have hi5:=gH p0 5 (by decide) rfl rfl rfl;simp only[aa]at *;grind
def aIU:=fb eP (cmp .eql (fn 1 (pr N0 (.int 1))) (fn 1 (pr bF (.int 1))))<|aj fun F p0=>by
 have hi1:=gH p0 1 (by decide) rfl rfl rfl;simp only[aa]at *;grind
def aIV:=fb Fp ac2<|aj fun F p0=>by
 simp only[aa,ab]at *
 obtain⟨a,b,c⟩:=ae (E.I F i9+1)
 omega
def aIW:=fb Fq ac2<|aj fun F p0=>by
 simp only[aa,ab]at *
 obtain⟨a,b,c⟩:=ae (E.I F i9+1)
 omega
def aIX:=fb Fp ac3<|aj fun F p0=>by
 simp only[aa,ab]at *
 obtain⟨a,b,c⟩:=ae (E.I F i9+1)
 omega
def aIY:=fb Fq ac3<|aj fun F p0=>by
 simp only[aa,ab]at *
 obtain⟨a,b,c⟩:=ae (E.I F i9+1)
 omega
def aIZ:=fb Fp ac4<|aj fun F p0=>by
 simp only[aa,ab]at *
 obtain⟨a,b,c⟩:=ae (E.I F i9+1)
 omega
def aI0:=fb Fq ac4<|aj fun F p0=>by
 simp only[aa,ab]at *
 obtain⟨a,b,c⟩:=ae (E.I F i9+1)
 omega
def aY7:List Fa:=[aIF,aIG,aIH,aII,aIJ,aIK,aIL,aIM,aIN,aIO,aIP,aIQ,aIR,aIS,aIT,aIU,aIV,aIW,aIX,aIY,aIZ,aI0]
theorem aW2:BodyOk Tryz.prog (HO (some (hO 4 32))) (hO 4 32) (sB).less (sB).tmps {(sB).st with pc:=(sB).st.pc}:=
 kG good (facts:=fl aY7) (gU _) (anns:=ain) aWe (nats:=al7.l) al7.h (n:=3000) (by kernel_rfl) (by kernel_rfl)
theorem aW1:BodyOk Tryz.prog (HO (some (hO 4 32))) (hO 4 32) (sB).less (sB).tmps (sB).st:=aW2
end
end Go.Proofs.YtnnbmcfabojjjaaGreat.payPays
