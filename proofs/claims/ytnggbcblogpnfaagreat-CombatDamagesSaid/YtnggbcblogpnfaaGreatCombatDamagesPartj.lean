/-
  CombatDamages: contracts of functions, part 10.
-/
import Derived.Test.YtnggbcblogpnfaaGreatCombatDamagesParti
namespace Go.Proofs.YtnggbcblogpnfaaGreat.combatDamages
open Go.ChangeShapes Go.WideShapes Go.ChangeAt Go.RowKit
open Go.SX
open Go.SX.E (fn pr cmp var)
set_option linter.unusedVariables false
set_option linter.unusedSimpArgs false
set_option maxRecDepth 100000
noncomputable section
abbrev U0:E:=var 0
abbrev U1:E:=fn 158 (pr U0 (fn 9 (pr U0 (.int 5))))
abbrev U2:E:=var 11
abbrev U3:E:=cmp .lss U2 (fn 9 (pr U0 (.int 5)))
abbrev U4:E:=cmp .lss U2 (.int 0)
abbrev U5:E:=.not U4
abbrev U6:E:=cmp .lss (.int 2147483648) (fn 9 (pr (fn 1 (pr U0 (fn 6 (pr (fn 8 (pr U2 (.int 5))) (.int 4))))) (.int 2)))
abbrev U7:E:=.not U6
abbrev U8:E:=.not (cmp .lss (fn 9 (pr U0 (.int 5))) U2)
abbrev U9:E:=cmp .eql U2 (.int 0)
abbrev TX:=[U9]
abbrev im:E:=var 9
abbrev re:E:=cmp .eql im U2
abbrev xc:E:=.not (cmp .lss im (.int 1))
abbrev cu:E:=var 8
abbrev IT:E:=fn 181 (pr cu (pr U0 (fn 8 (pr U2 (.int 5)))))
abbrev xd:E:=cmp .eql (fn 0 cu) (fn 8 (pr im (.int 5)))
abbrev BN:E:=var 12
abbrev U18:E:=pr (fn 28 (pr (pr BN im) cu)) U0
abbrev Ue:E:=fn 187 U18
abbrev U20:E:=cmp .lss (.int 20) (fn 9 (pr U0 (.int 5)))
abbrev Uf:E:=.not U20
abbrev Ug:=Uf::TX
abbrev U23:=U5::Ug
abbrev BO:=U3::U23
abbrev U25:E:=cmp .lss (.ar .add .i64 U2 (.int 1)) (.int 0)
abbrev Uh:E:=.not U25
abbrev xe:E:=var 10
abbrev IU:E:=fn 190 U0
abbrev U29:E:=cmp .lss (fn 9 (pr U0 (.int 5))) (.ar .add .i64 U2 (.int 1))
abbrev Ui:E:=.not U29
abbrev xf:=[Uf]
abbrev U32:=xc::xf
abbrev Uj:=re::U32
abbrev Uk:=U3::Uj
abbrev U35:=U8::xf
abbrev U36:=xc::U35
abbrev U37:=re::U36
abbrev Ul:=U3::U37
abbrev Um:E:=pr U0 (fn 8 (pr (.ar .add .i64 U2 (.int 1)) (.int 5)))
abbrev Un:E:=cmp .lss (fn 7 (pr (fn 9 (pr U0 (.int 5))) (.ar .add .i64 U2 (.int 1)))) (fn 7 (pr (fn 9 (pr U0 (.int 5))) U2))
abbrev U41:E:=cmp .lss (fn 7 (pr (fn 9 (pr U0 (.int 5))) (.ar .add .i64 U2 (.int 1)))) (.int 0)
abbrev Uo:E:=.not U41
abbrev IV:E:=fn 117 U0
abbrev fH:=[IV]
abbrev IW:E:=fn 116 U0
abbrev bu:E:=var 16
abbrev fW:E:=var 24
abbrev bw:E:=var 1
abbrev IX:List E:=[(fn 12 (pr U0 bw))]
abbrev Up:E:=cmp .lss cu (fn 0 U0)
abbrev U51:E:=cmp .lss cu (.int 0)
abbrev IY:E:=.not U51
abbrev U53:E:=cmp .lss (.int 100) (fn 0 U0)
abbrev U54:E:=.not U53
abbrev U55:=[U54]
abbrev U56:=IY::U55
abbrev Uq:=Up::U56
abbrev U58:E:=cmp .lss (.ar .add .i64 cu (.int 1)) (.int 0)
abbrev Ur:E:=.not U58
abbrev lp:E:=var 4
abbrev IZ:List E:=[(fn 12 (pr lp im))]
abbrev I0:E:=cmp .lss bu (fn 9 (pr lp (.int 2)))
abbrev U63:E:=cmp .lss (fn 9 (pr lp (.int 2))) bu
abbrev Us:E:=.not U63
abbrev xg:E:=.bool true
abbrev U66:E:=cmp .lss bu (.int 0)
abbrev Ut:E:=.not U66
abbrev U68:E:=cmp .lss (.int 6) (fn 9 (pr lp (.int 2)))
abbrev U69:E:=.not U68
abbrev U70:=[U69]
abbrev Uu:=Ut::U70
abbrev Uv:=I0::Uu
abbrev U73:E:=cmp .lss (.ar .add .i64 bu (.int 1)) (.int 0)
abbrev Uw:E:=.not U73
abbrev U75:=Us::Uu
abbrev Ux:=I0::U75
abbrev I1:E:=fn 187 (pr bw U0)
abbrev BP:E:=cmp .lss cu (fn 9 (pr U0 (.int 5)))
abbrev U79:E:=cmp .lss (fn 9 (pr U0 (.int 5))) cu
abbrev Uy:E:=.not U79
abbrev U81:=[IY]
abbrev Uz:=BP::U81
abbrev xh:=I1::Uz
abbrev UA:=IY::xf
abbrev UB:=BP::UA
abbrev U86:=Uy::UA
abbrev UC:=BP::U86
abbrev I2:E:=fn 189 (pr bw U0)
abbrev UD:E:=cmp .lss bu (fn 9 (pr (fn 1 (pr U0 (.int 0))) (.int 12)))
abbrev dC:=[I2]
abbrev U91:=[Ut]
abbrev I3:=UD::U91
abbrev UE:=IV::I3
abbrev UF:E:=cmp .lss fW (fn 9 (pr (fn 1 (pr U0 (.int 32))) (.int 2)))
abbrev U95:E:=cmp .lss fW (.int 0)
abbrev U96:E:=.not U95
abbrev U97:=[U96]
abbrev U98:=UF::U97
abbrev BQ:=IV::U98
abbrev eN:E:=var 48
abbrev BF:E:=cmp .lss eN (.int 4)
abbrev TY:E:=cmp .eql eN (.int 0)
abbrev xa:E:=cmp .eql eN (.int 1)
abbrev xb:E:=cmp .eql eN (.int 2)
abbrev axm:E:=cmp .lss eN (.int 0)
abbrev axn:E:=.not axm
abbrev BG:=[axn]
abbrev BH:E:=.not (cmp .lss (.ar .add .i64 eN (.int 1)) (.int 0))
abbrev axo:=TY::BG
abbrev IR:=BF::axo
abbrev axp:E:=cmp .lss (.int 4) eN
abbrev axq:E:=.not axp
abbrev axr:=axq::BG
abbrev TZ:=BF::axr
abbrev BI:E:=.not (cmp .lss (.int 4) (.ar .add .i64 eN (.int 1)))
abbrev IS:E:=cmp .lss (fn 7 (pr (.int 4) (.ar .add .i64 eN (.int 1)))) (fn 7 (pr (.int 4) eN))
abbrev BJ:E:=.not (cmp .lss (fn 7 (pr (.int 4) (.ar .add .i64 eN (.int 1)))) (.int 0))
abbrev iN:E:=var 32
abbrev axs:E:=cmp .eql iN (.int 0)
abbrev BL:=[axs]
abbrev axt:E:=cmp .lss (.ar .add .i64 iN (.int 1)) (.int 0)
abbrev Ua:E:=.not axt
abbrev axu:E:=cmp .eql iN (.int 1)
abbrev BM:=[axu]
abbrev axv:E:=cmp .lss (.int 2) (.ar .add .i64 iN (.int 1))
abbrev Ub:E:=.not axv
abbrev Uc:E:=cmp .lss (fn 7 (pr (.int 2) (.ar .add .i64 iN (.int 1)))) (fn 7 (pr (.int 2) iN))
abbrev axw:E:=cmp .lss (fn 7 (pr (.int 2) (.ar .add .i64 iN (.int 1)))) (.int 0)
abbrev Ud:E:=.not axw
def anp:=fb [U1,U3,U5] U7<|ay fun ρ p0 p1 p2=>by
 have hr0:0<=E.I ρ _->E.I ρ _<E.I ρ _->E.I ρ (fn 9 (pr (fn 1 _) _))<=6:=fun h0 h1=>@NJ ρ _ U2 _ p0 h0 h1
 simp only[aa]at *;grind
def anq:=fb ((.not U3)::U8::TX) (fn 187 (pr (fn 30 (.int 0)) U0))<|ay fun ρ p0 p1 p2=>by
 have:=fun h0=>@aIS ρ (fn 30 (.int 0)) U0 rfl h0
 simp only[aa]at *;grind
def anr:=fb [U1,U3,re,xc] U7<|aF fun ρ p0 p1 p2 p3=>by
 have hr0:0<=E.I ρ _->E.I ρ _<E.I ρ _->E.I ρ (fn 9 (pr (fn 1 _) _))<=6:=fun h0 h1=>@NJ ρ _ U2 _ p0 h0 h1
 simp only[aa]at *;grind
def ant:=fb [(.not U3),IT,xd,re,U8] Ue<|bl fun ρ p0 p1 p2 p3 p4=>by
 have:=fun h1 h2=>@afs ρ _ _ _ (pr BN im) p1 h1 h2
 simp only[aa]at *;grind
def anu:=fb BO Uh<|aF fun ρ p0 p1 p2 p3=>by
 simp only[aa,ae]at *
 obtain⟨a,b,c⟩:=ab (E.I ρ U2+1)
 omega
def anv:=fa ((fn 195 (fn 30 (.int 0))))<|fun ρ=>by
 rfl
def anw:=fb [(.not (cmp .lss xe im)),xc] (.not (cmp .lss xe (.int 0)))<|au fun ρ p0 p1=>by
 simp only[aa]at *;grind
def anx:=fb [(.not U3),IT,xd,re,U8,IU] (fn 195 (fn 28 (pr (pr BN im) cu)))<|cz fun ρ p0 p1 p2 p3 p4 p5=>by
 have h187:E.B ρ Ue=true:=by
  have:=fun h1 h2=>@afs ρ _ _ _ (pr BN im) p1 h1 h2
  simp only[aa]at *;grind
 grind[aIX]
def anz:=fb BO Ui<|aF fun ρ p0 p1 p2 p3=>by
 simp only[aa,ae]at *
 obtain⟨a,b,c⟩:=ab (E.I ρ U2+1)
 omega
def anA:=fb (U3::re::xf) (.not (cmp .lss (.int 2147483648) (fn 6 (pr im (.int 1)))))<|ay fun ρ p0 p1 p2=>by
 simp only[aa]at *;grind
def anB:=fb Uk Uh<|aF fun ρ p0 p1 p2 p3=>by
 simp only[aa,ae]at *
 obtain⟨a,b,c⟩:=ab (E.I ρ U2+1)
 omega
def anC:=fa ((cmp .eql (fn 8 (pr (.int 1) (.int 5))) (.int 5)))<|fun ρ=>by
 rfl
def anD:=fb Ul Ui<|bl fun ρ p0 p1 p2 p3 p4=>by
 simp only[aa,ae]at *
 obtain⟨a,b,c⟩:=ab (E.I ρ U2+1)
 omega
def anE:=fb (U3::U5::IU::Ug) (fn 181 (pr (fn 23 (pr (fn 1 (pr U0 (fn 6 (pr (fn 8 (pr U2 (.int 5))) (.int 0))))) (fn 23 (pr (fn 1 (pr U0 (fn 6 (pr (fn 8 (pr U2 (.int 5))) (.int 1))))) (fn 23 (pr (fn 1 (pr U0 (fn 6 (pr (fn 8 (pr U2 (.int 5))) (.int 2))))) (fn 23 (pr (fn 1 (pr U0 (fn 6 (pr (fn 8 (pr U2 (.int 5))) (.int 3))))) (fn 23 (pr (fn 28 (pr (pr (var 13) (fn 9 (pr (fn 1 (pr U0 (fn 6 (pr (fn 8 (pr U2 (.int 5))) (.int 4))))) (.int 2)))) (fn 1 (pr U0 (fn 6 (pr (fn 8 (pr U2 (.int 5))) (.int 4))))))) (fn 10 (.int 0)))))))))))) Um))<|bl fun ρ p0 p1 p2 p3 p4=>by
 have:=@bY ρ U2 (.int 1)
 have hr2:E.I ρ _=0->E.I ρ _<E.I ρ _->E.I ρ _=(E.I ρ _+1)*5->E.B ρ (fn _ (pr (fn 23 (pr (fn 1 _) (fn 23 (pr (fn 1 _) (fn 23 (pr (fn 1 _) (fn 23 (pr (fn 1 _) (fn 23 (pr (fn 28 (pr _ (fn 1 _))) _)))))))))) _))=true:=fun h0 h3 h4=>@aIQ ρ _ U2 (fn 8 (pr (.ar .add .i64 U2 (.int 1)) (.int 5))) p2 h0 h3 h4 (var 13) (fn 9 (pr (fn 1 (pr U0 (fn 6 (pr (fn 8 (pr U2 (.int 5))) (.int 4))))) (.int 2)))
 simp only[aa]at *;grind
def anF:=fb (U3::xd::Uj) (cmp .eql (fn 6 (pr im (.int 1))) (.ar .add .i64 U2 (.int 1)))<|bl fun ρ p0 p1 p2 p3 p4=>by
 simp only[aa,ae]at *
 obtain⟨a,b,c⟩:=ab (E.I ρ U2+1)
 omega
def anG:=fb BO Un<|aF fun ρ p0 p1 p2 p3=>by
 simp only[aa,ae]at *
 obtain⟨a,b,c⟩:=ab (E.I ρ U2+1)
 omega
def anH:=fb [xd] (cmp .eql (fn 6 (pr (fn 0 cu) (.int 5))) (fn 8 (pr (fn 6 (pr im (.int 1))) (.int 5))))<|ak fun ρ p0=>by
 simp only[aa]at *;grind
def anI:=fb BO Uo<|aF fun ρ p0 p1 p2 p3=>by
 simp only[aa,ae]at *
 obtain⟨a,b,c⟩:=ab (E.I ρ U2+1)
 omega
def anJ:=fb (U3::IT::xd::re::xc::IU::xf) (fn 181 (pr (fn 3 (pr cu (fn 23 (pr (fn 1 (pr U0 (fn 6 (pr (fn 8 (pr U2 (.int 5))) (.int 0))))) (fn 23 (pr (fn 1 (pr U0 (fn 6 (pr (fn 8 (pr U2 (.int 5))) (.int 1))))) (fn 23 (pr (fn 1 (pr U0 (fn 6 (pr (fn 8 (pr U2 (.int 5))) (.int 2))))) (fn 23 (pr (fn 1 (pr U0 (fn 6 (pr (fn 8 (pr U2 (.int 5))) (.int 3))))) (fn 23 (pr (fn 28 (pr (pr (var 13) (fn 9 (pr (fn 1 (pr U0 (fn 6 (pr (fn 8 (pr U2 (.int 5))) (.int 4))))) (.int 2)))) (fn 1 (pr U0 (fn 6 (pr (fn 8 (pr U2 (.int 5))) (.int 4))))))) (fn 10 (.int 0)))))))))))))) Um))<|eZ fun ρ p0 p1 p2 p3 p4 p5 p6=>by
 have:=@bY ρ U2 (.int 1)
 have hr2:0<=E.I ρ _->E.I ρ _=E.I ρ _*5->E.I ρ _=E.I ρ _*5->E.I ρ _<E.I ρ _->E.I ρ _=(E.I ρ _+1)*5->E.B ρ (fn _ (pr (fn 3 (pr _ (fn 23 (pr (fn 1 _) (fn 23 (pr (fn 1 _) (fn 23 (pr (fn 1 _) (fn 23 (pr (fn 1 _) (fn 23 (pr (fn 28 (pr _ (fn 1 _))) _)))))))))))) _))=true:=fun h0 h1 h2 h3 h4=>@aIR ρ _ _ U2 (fn 8 (pr (.ar .add .i64 U2 (.int 1)) (.int 5))) _ p1 p5 h0 h1 h2 h3 h4 (var 13) (fn 9 (pr (fn 1 (pr U0 (fn 6 (pr (fn 8 (pr U2 (.int 5))) (.int 4))))) (.int 2)))
 simp only[aa]at *;grind
def anK:=fb Uk Un<|aF fun ρ p0 p1 p2 p3=>by
 simp only[aa,ae]at *
 obtain⟨a,b,c⟩:=ab (E.I ρ U2+1)
 omega
def anL:=fb Ul Uo<|bl fun ρ p0 p1 p2 p3 p4=>by
 simp only[aa,ae]at *
 obtain⟨a,b,c⟩:=ab (E.I ρ U2+1)
 omega
def jQ:List Fa:=[ey,anp,anq,anr,ant,anu,anv,anw,anx,anz,anA,PH,anB,anC,anD,anE,anF,anG,anH,anI,anJ,anK,anL]
theorem aHi:aV Tryz.prog (bz (aGk)):=sc jQ (aA5) acq (aER) (by kernel_rfl) (by kernel_rfl)
def EJ:Nl:=nc aHi acq
def Hm:=fb fH (.not (cmp .lss (.int 2147483648) (fn 9 (pr (fn 1 (pr U0 (.int 0))) (.int 12)))))<|ak fun ρ p0=>by
 have:=ao p0
 simp only[aa]at *;omega
def Hn:=fb fH (.not (cmp .lss (.int 2147483648) (fn 0 (fn 1 (pr U0 (.int 6))))))<|ak fun ρ p0=>by
 have:=ao p0
 simp only[aa]at *;omega
def Ho:=fb fH (.not (cmp .lss (.int 2147483648) (fn 0 (fn 1 (pr U0 (.int 7))))))<|ak fun ρ p0=>by
 have:=ao p0
 simp only[aa]at *;omega
def Hp:=fb fH (.not (cmp .lss (.int 2147483648) (fn 0 (fn 1 (pr U0 (.int 8))))))<|ak fun ρ p0=>by
 have:=ao p0
 simp only[aa]at *;omega
def Hq:=fb fH (.not (cmp .lss (.int 2147483648) (fn 0 (fn 1 (pr U0 (.int 9))))))<|ak fun ρ p0=>by
 have:=ao p0
 simp only[aa]at *;omega
def Hr:=fb fH (.not (cmp .lss (.int 2147483648) (fn 0 (fn 1 (pr U0 (.int 20))))))<|ak fun ρ p0=>by
 have:=ao p0
 simp only[aa]at *;omega
def Hs:=fb fH (.not (cmp .lss (.int 2147483648) (fn 0 (fn 1 (pr U0 (.int 21))))))<|ak fun ρ p0=>by
 have:=ao p0
 simp only[aa]at *;omega
def Ht:=fb fH (.not (cmp .lss (.int 2147483648) (fn 0 (fn 1 (pr U0 (.int 22))))))<|ak fun ρ p0=>by
 have:=ao p0
 simp only[aa]at *;omega
def Hu:=fb fH (.not (cmp .lss (.int 2147483648) (fn 0 (fn 1 (pr U0 (.int 23))))))<|ak fun ρ p0=>by
 have:=ao p0
 simp only[aa]at *;omega
def wH:=fb fH (fn 158 (pr (fn 1 (pr U0 (.int 29))) (fn 9 (pr (fn 1 (pr U0 (.int 29))) (.int 5)))))<|ak fun ρ p0=>by
 simp_all[jt]
def AK:=fb [IW] (fn 190 (fn 1 (pr U0 (.int 29))))<|ak fun ρ p0=>by
 have:=afw p0 29 (by decide)
 omega
def wI:=fb fH (fn 158 (pr (fn 1 (pr U0 (.int 30))) (fn 9 (pr (fn 1 (pr U0 (.int 30))) (.int 5)))))<|ak fun ρ p0=>by
 simp_all[jt]
def AL:=fb [IW] (fn 190 (fn 1 (pr U0 (.int 30))))<|ak fun ρ p0=>by
 have:=afw p0 30 (by decide)
 omega
def Hv:=fb fH (.not (cmp .lss (.int 2147483648) (fn 0 (fn 1 (pr U0 (.int 31))))))<|ak fun ρ p0=>by
 have:=ao p0
 simp only[aa]at *;omega
def Hw:=fb fH (.not (cmp .lss (.int 2147483648) (fn 9 (pr (fn 1 (pr U0 (.int 32))) (.int 2)))))<|ak fun ρ p0=>by
 have:=ao p0
 simp only[aa]at *;omega
def PQ:=fb [IW,(fn 187 (pr xe (fn 1 (pr U0 (.int 29))))),(fn 187 (pr U2 (fn 1 (pr U0 (.int 30)))))] (fn 189 (pr (cU [(fn 28 (pr (pr (var 14) (fn 9 (pr (fn 1 (pr U0 (.int 0))) (.int 12)))) (fn 1 (pr U0 (.int 0))))),(fn 1 (pr U0 (.int 1))),(fn 1 (pr U0 (.int 2))),(fn 1 (pr U0 (.int 3))),(fn 1 (pr U0 (.int 4))),(fn 1 (pr U0 (.int 5))),(fn 28 (pr (pr (var 15) (fn 0 (fn 1 (pr U0 (.int 6))))) (fn 1 (pr U0 (.int 6))))),(fn 28 (pr (pr bu (fn 0 (fn 1 (pr U0 (.int 7))))) (fn 1 (pr U0 (.int 7))))),(fn 28 (pr (pr (var 17) (fn 0 (fn 1 (pr U0 (.int 8))))) (fn 1 (pr U0 (.int 8))))),(fn 28 (pr (pr (var 18) (fn 0 (fn 1 (pr U0 (.int 9))))) (fn 1 (pr U0 (.int 9))))),(fn 1 (pr U0 (.int 10))),(fn 1 (pr U0 (.int 11))),(fn 1 (pr U0 (.int 12))),(fn 1 (pr U0 (.int 13))),(fn 1 (pr U0 (.int 14))),(fn 1 (pr U0 (.int 15))),(fn 1 (pr U0 (.int 16))),(fn 1 (pr U0 (.int 17))),(fn 1 (pr U0 (.int 18))),(fn 1 (pr U0 (.int 19))),(fn 28 (pr (pr (var 19) (fn 0 (fn 1 (pr U0 (.int 20))))) (fn 1 (pr U0 (.int 20))))),(fn 28 (pr (pr (var 20) (fn 0 (fn 1 (pr U0 (.int 21))))) (fn 1 (pr U0 (.int 21))))),(fn 28 (pr (pr (var 21) (fn 0 (fn 1 (pr U0 (.int 22))))) (fn 1 (pr U0 (.int 22))))),(fn 28 (pr (pr (var 22) (fn 0 (fn 1 (pr U0 (.int 23))))) (fn 1 (pr U0 (.int 23))))),(fn 1 (pr U0 (.int 24))),(fn 1 (pr U0 (.int 25))),(fn 1 (pr U0 (.int 26))),(fn 1 (pr U0 (.int 27))),(fn 1 (pr U0 (.int 28))),xe,U2,(fn 28 (pr (pr (var 23) (fn 0 (fn 1 (pr U0 (.int 31))))) (fn 1 (pr U0 (.int 31))))),(fn 28 (pr (pr fW (fn 9 (pr (fn 1 (pr U0 (.int 32))) (.int 2)))) (fn 1 (pr U0 (.int 32))))),(fn 1 (pr U0 (.int 33))),(fn 1 (pr U0 (.int 34))),(fn 1 (pr U0 (.int 35))),(fn 1 (pr U0 (.int 36))),(fn 1 (pr U0 (.int 37)))]) U0))<|ay fun ρ p0 p1 p2=>by
 have h1:=@aIV ρ U0 [(fn 28 (pr (pr (var 14) (fn 9 (pr (fn 1 (pr U0 (.int 0))) (.int 12)))) (fn 1 (pr U0 (.int 0))))),(fn 1 (pr U0 (.int 1))),(fn 1 (pr U0 (.int 2))),(fn 1 (pr U0 (.int 3))),(fn 1 (pr U0 (.int 4))),(fn 1 (pr U0 (.int 5))),(fn 28 (pr (pr (var 15) (fn 0 (fn 1 (pr U0 (.int 6))))) (fn 1 (pr U0 (.int 6))))),(fn 28 (pr (pr bu (fn 0 (fn 1 (pr U0 (.int 7))))) (fn 1 (pr U0 (.int 7))))),(fn 28 (pr (pr (var 17) (fn 0 (fn 1 (pr U0 (.int 8))))) (fn 1 (pr U0 (.int 8))))),(fn 28 (pr (pr (var 18) (fn 0 (fn 1 (pr U0 (.int 9))))) (fn 1 (pr U0 (.int 9))))),(fn 1 (pr U0 (.int 10))),(fn 1 (pr U0 (.int 11))),(fn 1 (pr U0 (.int 12))),(fn 1 (pr U0 (.int 13))),(fn 1 (pr U0 (.int 14))),(fn 1 (pr U0 (.int 15))),(fn 1 (pr U0 (.int 16))),(fn 1 (pr U0 (.int 17))),(fn 1 (pr U0 (.int 18))),(fn 1 (pr U0 (.int 19))),(fn 28 (pr (pr (var 19) (fn 0 (fn 1 (pr U0 (.int 20))))) (fn 1 (pr U0 (.int 20))))),(fn 28 (pr (pr (var 20) (fn 0 (fn 1 (pr U0 (.int 21))))) (fn 1 (pr U0 (.int 21))))),(fn 28 (pr (pr (var 21) (fn 0 (fn 1 (pr U0 (.int 22))))) (fn 1 (pr U0 (.int 22))))),(fn 28 (pr (pr (var 22) (fn 0 (fn 1 (pr U0 (.int 23))))) (fn 1 (pr U0 (.int 23))))),(fn 1 (pr U0 (.int 24))),(fn 1 (pr U0 (.int 25))),(fn 1 (pr U0 (.int 26))),(fn 1 (pr U0 (.int 27))),(fn 1 (pr U0 (.int 28))),xe,U2,(fn 28 (pr (pr (var 23) (fn 0 (fn 1 (pr U0 (.int 31))))) (fn 1 (pr U0 (.int 31))))),(fn 28 (pr (pr fW (fn 9 (pr (fn 1 (pr U0 (.int 32))) (.int 2)))) (fn 1 (pr U0 (.int 32))))),(fn 1 (pr U0 (.int 33))),(fn 1 (pr U0 (.int 34))),(fn 1 (pr U0 (.int 35))),(fn 1 (pr U0 (.int 36))),(fn 1 (pr U0 (.int 37)))] rfl;exact h1 (lK p0 0 rfl (by decide) rfl (eX 1 rfl (eX 2 rfl (eX 3 rfl (eX 4 rfl (eX 5 rfl (lK p0 6 rfl (by decide) rfl (lK p0 7 rfl (by decide) rfl (lK p0 8 rfl (by decide) rfl (lK p0 9 rfl (by decide) rfl (eX 10 rfl (eX 11 rfl (eX 12 rfl (eX 13 rfl (eX 14 rfl (eX 15 rfl (eX 16 rfl (eX 17 rfl (eX 18 rfl (eX 19 rfl (lK p0 20 rfl (by decide) rfl (lK p0 21 rfl (by decide) rfl (lK p0 22 rfl (by decide) rfl (lK p0 23 rfl (by decide) rfl (eX 24 rfl (eX 25 rfl (eX 26 rfl (eX 27 rfl (eX 28 rfl (Zl 29 rfl p1 (Zl 30 rfl p2 (lK p0 31 rfl (by decide) rfl (lK p0 32 rfl (by decide) rfl (eX 33 rfl (eX 34 rfl (eX 35 rfl (eX 36 rfl (eX 37 rfl trivial))))))))))))))))))))))))))))))))))))))
def jn:List Fa:=[ey,Hm,Hn,Ho,Hp,Hq,Hr,Hs,Ht,Hu,ny,wH,AK,tB,wI,AL,Hv,Hw,PQ]
theorem aHj:aV Tryz.prog (bz (aeT)):=sc jn ([]) EJ (sL) (by kernel_rfl) (by kernel_rfl)
def acr:Nl:=nc aHj EJ
def anM:=fb IX (cmp .eql (fn 0 U0) (fn 0 bw))<|ak fun ρ p0=>by
 have:=@afl ρ _ _ p0
 simp only[aa]at *;grind
def anN:=fb (Up::(.not (cmp .lss (fn 0 U0) cu))::IX) (cmp .lss cu (fn 0 bw))<|ay fun ρ p0 p1 p2=>by
 have:=@afl ρ _ _ p2
 simp_all
def anO:=fb IX (cmp .eql (fn 1 (pr U0 cu)) (fn 1 (pr bw cu)))<|ak fun ρ p0=>by
 have:=@jr ρ _ _ p0 cu
 simp only[aa]at *;grind
def anP:=fb Uq Ur<|ay fun ρ p0 p1 p2=>by
 simp only[aa,ae]at *
 obtain⟨a,b,c⟩:=ab (E.I ρ cu+1)
 omega
def anQ:=fb Uq (cmp .lss (fn 7 (pr (fn 0 U0) (.ar .add .i64 cu (.int 1)))) (fn 7 (pr (fn 0 U0) cu)))<|ay fun ρ p0 p1 p2=>by
 simp only[aa,ae]at *
 obtain⟨a,b,c⟩:=ab (E.I ρ cu+1)
 omega
def mU:List Fa:=[anM,anN,anO,anP,Pr,anQ,Ps]
theorem aHk:aV Tryz.prog (bz (aGz)):=sc mU (aBd) acr ([]) (by kernel_rfl) (by kernel_rfl)
def acs:Nl:=nc aHk acr
def anR:=fb IZ (cmp .eql (fn 9 (pr lp (.int 2))) (fn 9 (pr im (.int 2))))<|ak fun ρ p0=>by
 have:=@td ρ _ _ p0 (.int 2)
 simp only[aa]at *;grind
def anS:=fb (I0::Us::IZ) (cmp .lss bu (fn 9 (pr im (.int 2))))<|ay fun ρ p0 p1 p2=>by
 have:=@td ρ _ _ p2 (.int 2)
 simp_all
def anT:=fb IZ (.and (cmp .eql (fn 1 (pr lp (fn 6 (pr (fn 8 (pr bu (.int 2))) (.int 0))))) (fn 1 (pr im (fn 6 (pr (fn 8 (pr bu (.int 2))) (.int 0)))))) (.and (cmp .eql (fn 1 (pr lp (fn 6 (pr (fn 8 (pr bu (.int 2))) (.int 1))))) (fn 1 (pr im (fn 6 (pr (fn 8 (pr bu (.int 2))) (.int 1)))))) xg))<|ak fun ρ p0=>by
 have:=@jr ρ _ _ p0 (fn 6 (pr (fn 8 (pr bu (.int 2))) (.int 0)))
 have:=@jr ρ _ _ p0 (fn 6 (pr (fn 8 (pr bu (.int 2))) (.int 1)))
 simp only[aa]at *;grind
def anU:=fb Uv Uw<|ay fun ρ p0 p1 p2=>by
 simp only[aa,ae]at *
 obtain⟨a,b,c⟩:=ab (E.I ρ bu+1)
 omega
def anV:=fb Ux (.not (cmp .lss (fn 9 (pr lp (.int 2))) (.ar .add .i64 bu (.int 1))))<|aF fun ρ p0 p1 p2 p3=>by
 simp only[aa,ae]at *
 obtain⟨a,b,c⟩:=ab (E.I ρ bu+1)
 omega
def anW:=fb Uv (cmp .lss (fn 7 (pr (fn 9 (pr lp (.int 2))) (.ar .add .i64 bu (.int 1)))) (fn 7 (pr (fn 9 (pr lp (.int 2))) bu)))<|ay fun ρ p0 p1 p2=>by
 simp only[aa,ae]at *
 obtain⟨a,b,c⟩:=ab (E.I ρ bu+1)
 omega
def anX:=fb Ux (.not (cmp .lss (fn 7 (pr (fn 9 (pr lp (.int 2))) (.ar .add .i64 bu (.int 1)))) (.int 0)))<|aF fun ρ p0 p1 p2 p3=>by
 simp only[aa,ae]at *
 obtain⟨a,b,c⟩:=ab (E.I ρ bu+1)
 omega
def mV:List Fa:=[anR,anS,anT,anU,anV,anW,anX]
theorem aHl:aV Tryz.prog (bz (aGJ)):=sc mV (aBn) acs ([]) (by kernel_rfl) (by kernel_rfl)
def acu:Nl:=nc aHl acs
def anY:=fb [I1] (cmp .eql (fn 9 (pr U0 (.int 5))) (fn 9 (pr bw (.int 5))))<|ak fun ρ p0=>by
 have:=@aft ρ _ _ p0
 simp only[aa]at *;grind
def anZ:=fb [I1,BP,Uy] (cmp .lss cu (fn 9 (pr bw (.int 5))))<|ay fun ρ p0 p1 p2=>by
 have:=@aft ρ _ _ p0
 simp_all
def an0:=fb xh (cmp .eql (fn 1 (pr U0 (fn 6 (pr (fn 8 (pr cu (.int 5))) (.int 0))))) (fn 1 (pr bw (fn 6 (pr (fn 8 (pr cu (.int 5))) (.int 0))))))<|ay fun ρ p0 p1 p2=>by
 have hr1:0<=E.I ρ _->E.I ρ _<E.I ρ _->E.I ρ (fn 1 _)=E.I ρ (fn 1 _):=fun h0 h1=>@Gn ρ _ _ cu p0 h0 h1 0 (by decide)
 simp only[aa]at *;grind
def an1:=fb xh (cmp .eql (fn 1 (pr U0 (fn 6 (pr (fn 8 (pr cu (.int 5))) (.int 1))))) (fn 1 (pr bw (fn 6 (pr (fn 8 (pr cu (.int 5))) (.int 1))))))<|ay fun ρ p0 p1 p2=>by
 have hr1:0<=E.I ρ _->E.I ρ _<E.I ρ _->E.I ρ (fn 1 _)=E.I ρ (fn 1 _):=fun h0 h1=>@Gn ρ _ _ cu p0 h0 h1 1 (by decide)
 simp only[aa]at *;grind
def an2:=fb xh (cmp .eql (fn 1 (pr U0 (fn 6 (pr (fn 8 (pr cu (.int 5))) (.int 2))))) (fn 1 (pr bw (fn 6 (pr (fn 8 (pr cu (.int 5))) (.int 2))))))<|ay fun ρ p0 p1 p2=>by
 have hr1:0<=E.I ρ _->E.I ρ _<E.I ρ _->E.I ρ (fn 1 _)=E.I ρ (fn 1 _):=fun h0 h1=>@Gn ρ _ _ cu p0 h0 h1 2 (by decide)
 simp only[aa]at *;grind
def an3:=fb xh (cmp .eql (fn 1 (pr U0 (fn 6 (pr (fn 8 (pr cu (.int 5))) (.int 3))))) (fn 1 (pr bw (fn 6 (pr (fn 8 (pr cu (.int 5))) (.int 3))))))<|ay fun ρ p0 p1 p2=>by
 have hr1:0<=E.I ρ _->E.I ρ _<E.I ρ _->E.I ρ (fn 1 _)=E.I ρ (fn 1 _):=fun h0 h1=>@Gn ρ _ _ cu p0 h0 h1 3 (by decide)
 simp only[aa]at *;grind
def an4:=fb xh (fn 12 (pr (fn 1 (pr U0 (fn 6 (pr (fn 8 (pr cu (.int 5))) (.int 4))))) (fn 1 (pr bw (fn 6 (pr (fn 8 (pr cu (.int 5))) (.int 4)))))))<|ay fun ρ p0 p1 p2=>by
 have hr2:0<=E.I ρ _->E.I ρ _<E.I ρ _->E.B ρ (fn 12 (pr (fn 1 _) (fn 1 _)))=true:=fun h0 h1=>nj (@NK ρ _ _ cu p0 h0 h1 4 (by decide))
 simp only[aa]at *;grind
def an5:=fb (U1::Uz) (.not (cmp .lss (.int 6) (fn 9 (pr (fn 1 (pr U0 (fn 6 (pr (fn 8 (pr cu (.int 5))) (.int 4))))) (.int 2)))))<|ay fun ρ p0 p1 p2=>by
 have hr2:0<=E.I ρ _->E.I ρ _<E.I ρ _->E.I ρ (fn 9 (pr (fn 1 _) _))<=6:=fun h0 h1=>@NJ ρ _ cu _ p0 h0 h1
 simp only[aa]at *;grind
def an6:=fb UB Ur<|ay fun ρ p0 p1 p2=>by
 simp only[aa,ae]at *
 obtain⟨a,b,c⟩:=ab (E.I ρ cu+1)
 omega
def an7:=fb UC (.not (cmp .lss (fn 9 (pr U0 (.int 5))) (.ar .add .i64 cu (.int 1))))<|aF fun ρ p0 p1 p2 p3=>by
 simp only[aa,ae]at *
 obtain⟨a,b,c⟩:=ab (E.I ρ cu+1)
 omega
def an8:=fb UB (cmp .lss (fn 7 (pr (fn 9 (pr U0 (.int 5))) (.ar .add .i64 cu (.int 1)))) (fn 7 (pr (fn 9 (pr U0 (.int 5))) cu)))<|ay fun ρ p0 p1 p2=>by
 simp only[aa,ae]at *
 obtain⟨a,b,c⟩:=ab (E.I ρ cu+1)
 omega
def an9:=fb UC (.not (cmp .lss (fn 7 (pr (fn 9 (pr U0 (.int 5))) (.ar .add .i64 cu (.int 1)))) (.int 0)))<|aF fun ρ p0 p1 p2 p3=>by
 simp only[aa,ae]at *
 obtain⟨a,b,c⟩:=ab (E.I ρ cu+1)
 omega
def sQ:List Fa:=[anY,anZ,an0,an1,an2,an3,an4,an5,an6,an7,an8,an9]
theorem aHm:aV Tryz.prog (bz (aGx)):=sc sQ (aBb) acu ([]) (by kernel_rfl) (by kernel_rfl)
def jO:Nl:=nc aHm acu
def aoa:=fb [I2,UD,(.not (cmp .lss (fn 9 (pr (fn 1 (pr U0 (.int 0))) (.int 12))) bu))] (cmp .lss bu (fn 9 (pr (fn 1 (pr bw (.int 0))) (.int 12))))<|ay fun ρ p0 p1 p2=>by
 have hp0:=i6 p0 0 (by rfl)
 have:=@td ρ _ _ hp0 (.int 12)
 simp_all
def aob:=fb dC (.and (cmp .eql (fn 1 (pr (fn 1 (pr U0 (.int 0))) (fn 6 (pr (fn 8 (pr bu (.int 12))) (.int 0))))) (fn 1 (pr (fn 1 (pr bw (.int 0))) (fn 6 (pr (fn 8 (pr bu (.int 12))) (.int 0)))))) (.and (cmp .eql (fn 1 (pr (fn 1 (pr U0 (.int 0))) (fn 6 (pr (fn 8 (pr bu (.int 12))) (.int 1))))) (fn 1 (pr (fn 1 (pr bw (.int 0))) (fn 6 (pr (fn 8 (pr bu (.int 12))) (.int 1)))))) (.and (cmp .eql (fn 1 (pr (fn 1 (pr U0 (.int 0))) (fn 6 (pr (fn 8 (pr bu (.int 12))) (.int 2))))) (fn 1 (pr (fn 1 (pr bw (.int 0))) (fn 6 (pr (fn 8 (pr bu (.int 12))) (.int 2)))))) (.and (cmp .eql (fn 1 (pr (fn 1 (pr U0 (.int 0))) (fn 6 (pr (fn 8 (pr bu (.int 12))) (.int 3))))) (fn 1 (pr (fn 1 (pr bw (.int 0))) (fn 6 (pr (fn 8 (pr bu (.int 12))) (.int 3)))))) (.and (cmp .eql (fn 1 (pr (fn 1 (pr U0 (.int 0))) (fn 6 (pr (fn 8 (pr bu (.int 12))) (.int 4))))) (fn 1 (pr (fn 1 (pr bw (.int 0))) (fn 6 (pr (fn 8 (pr bu (.int 12))) (.int 4)))))) (.and (cmp .eql (fn 1 (pr (fn 1 (pr U0 (.int 0))) (fn 6 (pr (fn 8 (pr bu (.int 12))) (.int 5))))) (fn 1 (pr (fn 1 (pr bw (.int 0))) (fn 6 (pr (fn 8 (pr bu (.int 12))) (.int 5)))))) (.and (cmp .eql (fn 1 (pr (fn 1 (pr U0 (.int 0))) (fn 6 (pr (fn 8 (pr bu (.int 12))) (.int 6))))) (fn 1 (pr (fn 1 (pr bw (.int 0))) (fn 6 (pr (fn 8 (pr bu (.int 12))) (.int 6)))))) (.and (cmp .eql (fn 1 (pr (fn 1 (pr U0 (.int 0))) (fn 6 (pr (fn 8 (pr bu (.int 12))) (.int 7))))) (fn 1 (pr (fn 1 (pr bw (.int 0))) (fn 6 (pr (fn 8 (pr bu (.int 12))) (.int 7)))))) (.and (cmp .eql (fn 1 (pr (fn 1 (pr U0 (.int 0))) (fn 6 (pr (fn 8 (pr bu (.int 12))) (.int 8))))) (fn 1 (pr (fn 1 (pr bw (.int 0))) (fn 6 (pr (fn 8 (pr bu (.int 12))) (.int 8)))))) (.and (.iff (fn 1 (pr (fn 1 (pr U0 (.int 0))) (fn 6 (pr (fn 8 (pr bu (.int 12))) (.int 9))))) (fn 1 (pr (fn 1 (pr bw (.int 0))) (fn 6 (pr (fn 8 (pr bu (.int 12))) (.int 9)))))) (.and (.iff (fn 1 (pr (fn 1 (pr U0 (.int 0))) (fn 6 (pr (fn 8 (pr bu (.int 12))) (.int 10))))) (fn 1 (pr (fn 1 (pr bw (.int 0))) (fn 6 (pr (fn 8 (pr bu (.int 12))) (.int 10)))))) (.and (.iff (fn 1 (pr (fn 1 (pr U0 (.int 0))) (fn 6 (pr (fn 8 (pr bu (.int 12))) (.int 11))))) (fn 1 (pr (fn 1 (pr bw (.int 0))) (fn 6 (pr (fn 8 (pr bu (.int 12))) (.int 11)))))) xg))))))))))))<|ak fun ρ p0=>by
 have hp0:=i6 p0 0 (by rfl)
 have:=@jr ρ _ _ hp0 (fn 6 (pr (fn 8 (pr bu (.int 12))) (.int 0)))
 have:=@jr ρ _ _ hp0 (fn 6 (pr (fn 8 (pr bu (.int 12))) (.int 1)))
 have:=@jr ρ _ _ hp0 (fn 6 (pr (fn 8 (pr bu (.int 12))) (.int 2)))
 have:=@jr ρ _ _ hp0 (fn 6 (pr (fn 8 (pr bu (.int 12))) (.int 3)))
 have:=@jr ρ _ _ hp0 (fn 6 (pr (fn 8 (pr bu (.int 12))) (.int 4)))
 have:=@jr ρ _ _ hp0 (fn 6 (pr (fn 8 (pr bu (.int 12))) (.int 5)))
 have:=@jr ρ _ _ hp0 (fn 6 (pr (fn 8 (pr bu (.int 12))) (.int 6)))
 have:=@jr ρ _ _ hp0 (fn 6 (pr (fn 8 (pr bu (.int 12))) (.int 7)))
 have:=@jr ρ _ _ hp0 (fn 6 (pr (fn 8 (pr bu (.int 12))) (.int 8)))
 have:=@NH ρ _ _ hp0 (fn 6 (pr (fn 8 (pr bu (.int 12))) (.int 9)))
 have:=@NH ρ _ _ hp0 (fn 6 (pr (fn 8 (pr bu (.int 12))) (.int 10)))
 have:=@NH ρ _ _ hp0 (fn 6 (pr (fn 8 (pr bu (.int 12))) (.int 11)))
 simp only[aa]at *;grind
def aoc:=fb UE Uw<|ay fun ρ p0 p1 p2=>by
 have:=ao p0
 simp only[aa,ae]at *
 obtain⟨a,b,c⟩:=ab (E.I ρ bu+1)
 omega
def aod:=fb I3 (.not (cmp .lss (fn 9 (pr (fn 1 (pr U0 (.int 0))) (.int 12))) (.ar .add .i64 bu (.int 1))))<|au fun ρ p0 p1=>by
 simp only[aa,ae]at *
 obtain⟨a,b,c⟩:=ab (E.I ρ bu+1)
 omega
def aoe:=fb UE (cmp .lss (fn 7 (pr (fn 9 (pr (fn 1 (pr U0 (.int 0))) (.int 12))) (.ar .add .i64 bu (.int 1)))) (fn 7 (pr (fn 9 (pr (fn 1 (pr U0 (.int 0))) (.int 12))) bu)))<|ay fun ρ p0 p1 p2=>by
 have:=ao p0
 simp only[aa,ae]at *
 obtain⟨a,b,c⟩:=ab (E.I ρ bu+1)
 omega
def aof:=fb I3 (.not (cmp .lss (fn 7 (pr (fn 9 (pr (fn 1 (pr U0 (.int 0))) (.int 12))) (.ar .add .i64 bu (.int 1)))) (.int 0)))<|au fun ρ p0 p1=>by
 simp only[aa,ae]at *
 obtain⟨a,b,c⟩:=ab (E.I ρ bu+1)
 omega
def aD9:List Fa:=[aoa,aob,aoc,aod,aoe,aof]
theorem aBY:BodyOk Tryz.prog (Cu (some (gQ 0 16))) (gQ 0 16) (iF 0 16 5 fu).less (iF 0 16 5 fu).tmps {(iF 0 16 5 fu).st with pc:=(iF 0 16 5 fu).st.pc}:=
 x6 good (facts:=fl aD9) (oo _) (anns:=[]) (mX _ (by kernel_rfl)) (nats:=jO.l) jO.h (n:=3000) (by kernel_rfl) (by kernel_rfl)
theorem aBX:BodyOk Tryz.prog (Cu (some (gQ 0 16))) (gQ 0 16) (iF 0 16 5 fu).less (iF 0 16 5 fu).tmps (iF 0 16 5 fu).st:=aBY
theorem aEt:gA Tryz.prog (Cu (some (gQ 0 16))):=Eu rfl (by kernel_rfl) (by
 intro τ hτ;rcases List.mem_cons.1 hτ with rfl|hτ
 ·exact aBX
 cases hτ)
def aog:=fb [I2,UF,(.not (cmp .lss (fn 9 (pr (fn 1 (pr U0 (.int 32))) (.int 2))) fW))] (cmp .lss fW (fn 9 (pr (fn 1 (pr bw (.int 32))) (.int 2))))<|ay fun ρ p0 p1 p2=>by
 have hp0:=i6 p0 32 (by rfl)
 have:=@td ρ _ _ hp0 (.int 2)
 simp_all
def aoh:=fb dC (.and (cmp .eql (fn 1 (pr (fn 1 (pr U0 (.int 32))) (fn 6 (pr (fn 8 (pr fW (.int 2))) (.int 0))))) (fn 1 (pr (fn 1 (pr bw (.int 32))) (fn 6 (pr (fn 8 (pr fW (.int 2))) (.int 0)))))) (.and (cmp .eql (fn 1 (pr (fn 1 (pr U0 (.int 32))) (fn 6 (pr (fn 8 (pr fW (.int 2))) (.int 1))))) (fn 1 (pr (fn 1 (pr bw (.int 32))) (fn 6 (pr (fn 8 (pr fW (.int 2))) (.int 1)))))) xg))<|ak fun ρ p0=>by
 have hp0:=i6 p0 32 (by rfl)
 have:=@jr ρ _ _ hp0 (fn 6 (pr (fn 8 (pr fW (.int 2))) (.int 0)))
 have:=@jr ρ _ _ hp0 (fn 6 (pr (fn 8 (pr fW (.int 2))) (.int 1)))
 simp only[aa]at *;grind
def aoi:=fb BQ (.not (cmp .lss (.ar .add .i64 fW (.int 1)) (.int 0)))<|ay fun ρ p0 p1 p2=>by
 have:=ao p0
 simp only[aa,ae]at *
 obtain⟨a,b,c⟩:=ab (E.I ρ fW+1)
 omega
def aoj:=fb BQ (.not (cmp .lss (fn 9 (pr (fn 1 (pr U0 (.int 32))) (.int 2))) (.ar .add .i64 fW (.int 1))))<|ay fun ρ p0 p1 p2=>by
 simp only[aa,ae]at *
 obtain⟨a,b,c⟩:=ab (E.I ρ fW+1)
 omega
def aok:=fb BQ (cmp .lss (fn 7 (pr (fn 9 (pr (fn 1 (pr U0 (.int 32))) (.int 2))) (.ar .add .i64 fW (.int 1)))) (fn 7 (pr (fn 9 (pr (fn 1 (pr U0 (.int 32))) (.int 2))) fW)))<|ay fun ρ p0 p1 p2=>by
 have:=ao p0
 simp only[aa,ae]at *
 obtain⟨a,b,c⟩:=ab (E.I ρ fW+1)
 omega
def aol:=fb BQ (.not (cmp .lss (fn 7 (pr (fn 9 (pr (fn 1 (pr U0 (.int 32))) (.int 2))) (.ar .add .i64 fW (.int 1)))) (.int 0)))<|ay fun ρ p0 p1 p2=>by
 simp only[aa,ae]at *
 obtain⟨a,b,c⟩:=ab (E.I ρ fW+1)
 omega
def aEa:List Fa:=[aog,aoh,aoi,aoj,aok,aol]
theorem aB0:BodyOk Tryz.prog (Cv (some (gQ 2 24))) (gQ 2 24) (iF 2 24 6 iB).less (iF 2 24 6 iB).tmps {(iF 2 24 6 iB).st with pc:=(iF 2 24 6 iB).st.pc}:=
 x6 good (facts:=fl aEa) (oo _) (anns:=[]) (mX _ (by kernel_rfl)) (nats:=jO.l) jO.h (n:=3000) (by kernel_rfl) (by kernel_rfl)
theorem aBZ:BodyOk Tryz.prog (Cv (some (gQ 2 24))) (gQ 2 24) (iF 2 24 6 iB).less (iF 2 24 6 iB).tmps (iF 2 24 6 iB).st:=aB0
theorem aEu:gA Tryz.prog (Cv (some (gQ 2 24))):=Eu rfl (by kernel_rfl) (by
 intro τ hτ;rcases List.mem_cons.1 hτ with rfl|hτ
 ·exact aBZ
 cases hτ)
def aom:=fb dC (fn 12 (pr (fn 1 (pr U0 (.int 6))) (fn 1 (pr bw (.int 6)))))<|ak fun ρ p0=>by
 have hp0:=i6 p0 6 (by rfl);grind[nj]
def aon:=fb dC (fn 12 (pr (fn 1 (pr U0 (.int 7))) (fn 1 (pr bw (.int 7)))))<|ak fun ρ p0=>by
 have hp0:=i6 p0 7 (by rfl);grind[nj]
def aoo:=fb dC (fn 12 (pr (fn 1 (pr U0 (.int 8))) (fn 1 (pr bw (.int 8)))))<|ak fun ρ p0=>by
 have hp0:=i6 p0 8 (by rfl);grind[nj]
def aop:=fb dC (fn 12 (pr (fn 1 (pr U0 (.int 9))) (fn 1 (pr bw (.int 9)))))<|ak fun ρ p0=>by
 have hp0:=i6 p0 9 (by rfl);grind[nj]
def aoq:=fb fH (.not (cmp .lss (.int 100) (fn 0 (fn 1 (pr U0 (.int 6))))))<|ak fun ρ p0=>by
 have:=ao p0
 simp only[aa]at *;grind
def aor:=fb fH (.not (cmp .lss (.int 100) (fn 0 (fn 1 (pr U0 (.int 7))))))<|ak fun ρ p0=>by
 have:=ao p0
 simp only[aa]at *;grind
def aos:=fb fH (.not (cmp .lss (.int 100) (fn 0 (fn 1 (pr U0 (.int 8))))))<|ak fun ρ p0=>by
 have:=ao p0
 simp only[aa]at *;grind
def aot:=fb fH (.not (cmp .lss (.int 100) (fn 0 (fn 1 (pr U0 (.int 9))))))<|ak fun ρ p0=>by
 have:=ao p0
 simp only[aa]at *;grind
def PS:=fb (BF::(.not TY)::(.not xa)::(.not xb)::BG) BH<|bl fun ρ p0 p1 p2 p3 p4=>by
 simp only[aa,ae]at *
 obtain⟨a,b,c⟩:=ab (E.I ρ eN+1)
 omega
def PT:=fb [xb] BH<|ak fun ρ p0=>by
 simp only[aa,ae]at *
 obtain⟨a,b,c⟩:=ab (E.I ρ eN+1)
 omega
def PU:=fb [xa] BH<|ak fun ρ p0=>by
 simp only[aa,ae]at *
 obtain⟨a,b,c⟩:=ab (E.I ρ eN+1)
 omega
def PV:=fb IR BH<|ay fun ρ p0 p1 p2=>by
 simp only[aa,ae]at *
 obtain⟨a,b,c⟩:=ab (E.I ρ eN+1)
 omega
def PW:=fb TZ BI<|ay fun ρ p0 p1 p2=>by
 simp only[aa,ae]at *
 obtain⟨a,b,c⟩:=ab (E.I ρ eN+1)
 omega
def PX:=fb [xb] BI<|ak fun ρ p0=>by
 simp only[aa,ae]at *
 obtain⟨a,b,c⟩:=ab (E.I ρ eN+1)
 omega
def PY:=fb [xa] BI<|ak fun ρ p0=>by
 simp only[aa,ae]at *
 obtain⟨a,b,c⟩:=ab (E.I ρ eN+1)
 omega
def PZ:=fb IR BI<|ay fun ρ p0 p1 p2=>by
 simp only[aa,ae]at *
 obtain⟨a,b,c⟩:=ab (E.I ρ eN+1)
 omega
def P1:=fb (BF::BG) IS<|au fun ρ p0 p1=>by
 simp only[aa,ae]at *
 obtain⟨a,b,c⟩:=ab (E.I ρ eN+1)
 omega
def P2:=fb [xb] IS<|ak fun ρ p0=>by
 simp only[aa,ae]at *
 obtain⟨a,b,c⟩:=ab (E.I ρ eN+1)
 omega
def P3:=fb [xa] IS<|ak fun ρ p0=>by
 simp only[aa,ae]at *
 obtain⟨a,b,c⟩:=ab (E.I ρ eN+1)
 omega
def P4:=fb TZ BJ<|ay fun ρ p0 p1 p2=>by
 simp only[aa,ae]at *
 obtain⟨a,b,c⟩:=ab (E.I ρ eN+1)
 omega
def P5:=fb [xb] BJ<|ak fun ρ p0=>by
 simp only[aa,ae]at *
 obtain⟨a,b,c⟩:=ab (E.I ρ eN+1)
 omega
def P6:=fb [xa] BJ<|ak fun ρ p0=>by
 simp only[aa,ae]at *
 obtain⟨a,b,c⟩:=ab (E.I ρ eN+1)
 omega
def P7:=fb IR BJ<|ay fun ρ p0 p1 p2=>by
 simp only[aa,ae]at *
 obtain⟨a,b,c⟩:=ab (E.I ρ eN+1)
 omega
def aEb:List Fa:=[aom,aon,aoo,aop,aoq,aor,aos,aot,PS,PT,PU,PV,PW,PX,PY,PZ,P1,P2,P3,P4,P5,P6,P7]
theorem aB2:BodyOk Tryz.prog (uf (some nu)) nu (iG 0).less (iG 0).tmps {(iG 0).st with pc:=(iG 0).st.pc}:=
 x6 good (facts:=fl aEb) (oo _) (anns:=[]) (mX _ (by kernel_rfl)) (nats:=jO.l) jO.h (n:=3000) (by kernel_rfl) (by kernel_rfl)
theorem aB1:BodyOk Tryz.prog (uf (some nu)) nu (iG 0).less (iG 0).tmps (iG 0).st:=aB2
def aou:=fb dC (fn 12 (pr (fn 1 (pr U0 (.int 20))) (fn 1 (pr bw (.int 20)))))<|ak fun ρ p0=>by
 have hp0:=i6 p0 20 (by rfl);grind[nj]
def aov:=fb dC (fn 12 (pr (fn 1 (pr U0 (.int 21))) (fn 1 (pr bw (.int 21)))))<|ak fun ρ p0=>by
 have hp0:=i6 p0 21 (by rfl);grind[nj]
def aow:=fb dC (fn 12 (pr (fn 1 (pr U0 (.int 22))) (fn 1 (pr bw (.int 22)))))<|ak fun ρ p0=>by
 have hp0:=i6 p0 22 (by rfl);grind[nj]
def aox:=fb dC (fn 12 (pr (fn 1 (pr U0 (.int 23))) (fn 1 (pr bw (.int 23)))))<|ak fun ρ p0=>by
 have hp0:=i6 p0 23 (by rfl);grind[nj]
def aoy:=fb fH (.not (cmp .lss (.int 100) (fn 0 (fn 1 (pr U0 (.int 20))))))<|ak fun ρ p0=>by
 have:=ao p0
 simp only[aa]at *;grind
def aoz:=fb fH (.not (cmp .lss (.int 100) (fn 0 (fn 1 (pr U0 (.int 21))))))<|ak fun ρ p0=>by
 have:=ao p0
 simp only[aa]at *;grind
def aoA:=fb fH (.not (cmp .lss (.int 100) (fn 0 (fn 1 (pr U0 (.int 22))))))<|ak fun ρ p0=>by
 have:=ao p0
 simp only[aa]at *;grind
def aoB:=fb fH (.not (cmp .lss (.int 100) (fn 0 (fn 1 (pr U0 (.int 23))))))<|ak fun ρ p0=>by
 have:=ao p0
 simp only[aa]at *;grind
def aEc:List Fa:=[aou,aov,aow,aox,aoy,aoz,aoA,aoB,PS,PT,PU,PV,PW,PX,PY,PZ,P1,P2,P3,P4,P5,P6,P7]
theorem aB4:BodyOk Tryz.prog (uf (some nu)) nu (iG 1).less (iG 1).tmps {(iG 1).st with pc:=(iG 1).st.pc}:=
 x6 good (facts:=fl aEc) (oo _) (anns:=[]) (mX _ (by kernel_rfl)) (nats:=jO.l) jO.h (n:=3000) (by kernel_rfl) (by kernel_rfl)
theorem aB3:BodyOk Tryz.prog (uf (some nu)) nu (iG 1).less (iG 1).tmps (iG 1).st:=aB4
theorem aEv:gA Tryz.prog (uf (some nu)):=Eu rfl (by kernel_rfl) (by
 intro τ hτ;rcases List.mem_cons.1 hτ with rfl|hτ
 ·exact aB1
 rcases List.mem_cons.1 hτ with rfl|hτ
 ·exact aB3
 cases hτ)
def Yu:List Ann:=(uf (some nu))::[]
theorem aBu:∀x∈Yu,gA Tryz.prog x:=by
 intro x hx;rcases List.mem_cons.1 hx with rfl|hx
 ·exact aEv
 exact mX [] (by kernel_rfl) x hx
def aoC:=fb dC (cmp .eql (fn 1 (pr U0 (.int 28))) (fn 1 (pr bw (.int 28))))<|ak fun ρ p0=>by
 have hi28:=gx p0 28 (by decide) rfl rfl rfl;simp only[aa]at *;grind
def aoD:=fb BL Ua<|ak fun ρ p0=>by
 simp only[aa,ae]at *
 obtain⟨a,b,c⟩:=ab (E.I ρ iN+1)
 omega
def aoE:=fb BM Ua<|ak fun ρ p0=>by
 simp only[aa,ae]at *
 obtain⟨a,b,c⟩:=ab (E.I ρ iN+1)
 omega
def aoF:=fb dC (cmp .eql (fn 1 (pr U0 (.int 27))) (fn 1 (pr bw (.int 27))))<|ak fun ρ p0=>by
 have hi27:=gx p0 27 (by decide) rfl rfl rfl;simp only[aa]at *;grind
def aoG:=fb dC (.iff (fn 1 (pr U0 (.int 26))) (fn 1 (pr bw (.int 26))))<|ak fun ρ p0=>by
 have hb26:=wg p0 26 (by decide);simp_all
def aoH:=fb dC (.iff (fn 1 (pr U0 (.int 25))) (fn 1 (pr bw (.int 25))))<|ak fun ρ p0=>by
 have hb25:=wg p0 25 (by decide);simp_all
def aoI:=fb dC (.iff (fn 1 (pr U0 (.int 24))) (fn 1 (pr bw (.int 24))))<|ak fun ρ p0=>by
 have hb24:=wg p0 24 (by decide);simp_all
def aoJ:=fb dC (.and (cmp .eql (fn 1 (pr U0 (.int 16))) (fn 1 (pr bw (.int 16)))) (.and (cmp .eql (fn 1 (pr U0 (.int 17))) (fn 1 (pr bw (.int 17)))) (.and (cmp .eql (fn 1 (pr U0 (.int 18))) (fn 1 (pr bw (.int 18)))) (.and (cmp .eql (fn 1 (pr U0 (.int 19))) (fn 1 (pr bw (.int 19)))) xg))))<|ak fun ρ p0=>by
 have hi16:=gx p0 16 (by decide) rfl rfl rfl;have hi17:=gx p0 17 (by decide) rfl rfl rfl;have hi18:=gx p0 18 (by decide) rfl rfl rfl;have hi19:=gx p0 19 (by decide) rfl rfl rfl;simp only[aa]at *;grind
def aoK:=fb dC (cmp .eql (fn 1 (pr U0 (.int 15))) (fn 1 (pr bw (.int 15))))<|ak fun ρ p0=>by
 have hi15:=gx p0 15 (by decide) rfl rfl rfl;simp only[aa]at *;grind
def aoL:=fb dC (cmp .eql (fn 1 (pr U0 (.int 14))) (fn 1 (pr bw (.int 14))))<|ak fun ρ p0=>by
 have hi14:=gx p0 14 (by decide) rfl rfl rfl;simp only[aa]at *;grind
def aoM:=fb dC (cmp .eql (fn 1 (pr U0 (.int 13))) (fn 1 (pr bw (.int 13))))<|ak fun ρ p0=>by
 have hi13:=gx p0 13 (by decide) rfl rfl rfl;simp only[aa]at *;grind
def aoN:=fb dC (.iff (fn 1 (pr U0 (.int 12))) (fn 1 (pr bw (.int 12))))<|ak fun ρ p0=>by
 have hb12:=wg p0 12 (by decide);simp_all
def aoO:=fb dC (.iff (fn 1 (pr U0 (.int 11))) (fn 1 (pr bw (.int 11))))<|ak fun ρ p0=>by
 have hb11:=wg p0 11 (by decide);simp_all
def aoP:=fb dC (.iff (fn 1 (pr U0 (.int 10))) (fn 1 (pr bw (.int 10))))<|ak fun ρ p0=>by
 have hb10:=wg p0 10 (by decide);simp_all
def aoQ:=fb dC (.and (cmp .eql (fn 1 (pr U0 (.int 2))) (fn 1 (pr bw (.int 2)))) (.and (cmp .eql (fn 1 (pr U0 (.int 3))) (fn 1 (pr bw (.int 3)))) (.and (cmp .eql (fn 1 (pr U0 (.int 4))) (fn 1 (pr bw (.int 4)))) (.and (cmp .eql (fn 1 (pr U0 (.int 5))) (fn 1 (pr bw (.int 5)))) xg))))<|ak fun ρ p0=>by
 have hi2:=gx p0 2 (by decide) rfl rfl rfl;have hi3:=gx p0 3 (by decide) rfl rfl rfl;have hi4:=gx p0 4 (by decide) rfl rfl rfl;have hi5:=gx p0 5 (by decide) rfl rfl rfl;simp only[aa]at *;grind
def aoR:=fb dC (cmp .eql (fn 1 (pr U0 (.int 1))) (fn 1 (pr bw (.int 1))))<|ak fun ρ p0=>by
 have hi1:=gx p0 1 (by decide) rfl rfl rfl;simp only[aa]at *;grind
def aoS:=fb BL Ub<|ak fun ρ p0=>by
 simp only[aa,ae]at *
 obtain⟨a,b,c⟩:=ab (E.I ρ iN+1)
 omega
def aoT:=fb BM Ub<|ak fun ρ p0=>by
 simp only[aa,ae]at *
 obtain⟨a,b,c⟩:=ab (E.I ρ iN+1)
 omega
def aoU:=fb BL Uc<|ak fun ρ p0=>by
 simp only[aa,ae]at *
 obtain⟨a,b,c⟩:=ab (E.I ρ iN+1)
 omega
def aoV:=fb BM Uc<|ak fun ρ p0=>by
 simp only[aa,ae]at *
 obtain⟨a,b,c⟩:=ab (E.I ρ iN+1)
 omega
def aoW:=fb BL Ud<|ak fun ρ p0=>by
 simp only[aa,ae]at *
 obtain⟨a,b,c⟩:=ab (E.I ρ iN+1)
 omega
def aoX:=fb BM Ud<|ak fun ρ p0=>by
 simp only[aa,ae]at *
 obtain⟨a,b,c⟩:=ab (E.I ρ iN+1)
 omega
def aEd:List Fa:=[aoC,aoD,aoE,aoF,aoG,aoH,aoI,aoJ,aoK,aoL,aoM,aoN,aoO,aoP,aoQ,aoR,aoS,aoT,aoU,aoV,aoW,aoX]
theorem aB6:BodyOk Tryz.prog (Cw (some (gQ 4 32))) (gQ 4 32) (qA).less (qA).tmps {(qA).st with pc:=(qA).st.pc}:=
 x6 good (facts:=fl aEd) (oo _) (anns:=Yu) aBu (nats:=jO.l) jO.h (n:=3000) (by kernel_rfl) (by kernel_rfl)
theorem aB5:BodyOk Tryz.prog (Cw (some (gQ 4 32))) (gQ 4 32) (qA).less (qA).tmps (qA).st:=aB6
theorem aEw:gA Tryz.prog (Cw (some (gQ 4 32))):=Eu rfl (by kernel_rfl) (by
 intro τ hτ;rcases List.mem_cons.1 hτ with rfl|hτ
 ·exact aB5
 cases hτ)
def aoY:=fb dC (fn 187 (pr (fn 1 (pr bw (.int 29))) (fn 1 (pr U0 (.int 29)))))<|ak fun ρ p0=>by
 simp_all[aIT]
def aoZ:=fb dC (cmp .eql (fn 9 (pr (fn 1 (pr U0 (.int 0))) (.int 12))) (fn 9 (pr (fn 1 (pr bw (.int 0))) (.int 12))))<|ak fun ρ p0=>by
 have hp0:=i6 p0 0 (by rfl)
 have:=@td ρ _ _ hp0 (.int 12)
 simp only[aa]at *;grind
def ao0:=fb dC (fn 187 (pr (fn 1 (pr bw (.int 30))) (fn 1 (pr U0 (.int 30)))))<|ak fun ρ p0=>by
 simp_all[aIU]
def ao1:=fb dC (fn 12 (pr (fn 1 (pr U0 (.int 31))) (fn 1 (pr bw (.int 31)))))<|ak fun ρ p0=>by
 have hp0:=i6 p0 31 (by rfl);grind[nj]
def ao2:=fb fH (.not (cmp .lss (.int 100) (fn 0 (fn 1 (pr U0 (.int 31))))))<|ak fun ρ p0=>by
 have:=ao p0
 simp only[aa]at *;grind
def ao3:=fb dC (cmp .eql (fn 1 (pr U0 (.int 37))) (fn 1 (pr bw (.int 37))))<|ak fun ρ p0=>by
 have hi37:=gx p0 37 (by decide) rfl rfl rfl;simp only[aa]at *;grind
def ao4:=fb dC (cmp .eql (fn 1 (pr U0 (.int 36))) (fn 1 (pr bw (.int 36))))<|ak fun ρ p0=>by
 have hi36:=gx p0 36 (by decide) rfl rfl rfl;simp only[aa]at *;grind
def ao5:=fb dC (cmp .eql (fn 1 (pr U0 (.int 35))) (fn 1 (pr bw (.int 35))))<|ak fun ρ p0=>by
 have hi35:=gx p0 35 (by decide) rfl rfl rfl;simp only[aa]at *;grind
def ao6:=fb dC (cmp .eql (fn 1 (pr U0 (.int 34))) (fn 1 (pr bw (.int 34))))<|ak fun ρ p0=>by
 have hi34:=gx p0 34 (by decide) rfl rfl rfl;simp only[aa]at *;grind
def ao7:=fb dC (cmp .eql (fn 1 (pr U0 (.int 33))) (fn 1 (pr bw (.int 33))))<|ak fun ρ p0=>by
 have hi33:=gx p0 33 (by decide) rfl rfl rfl;simp only[aa]at *;grind
def ao8:=fb dC (cmp .eql (fn 9 (pr (fn 1 (pr U0 (.int 32))) (.int 2))) (fn 9 (pr (fn 1 (pr bw (.int 32))) (.int 2))))<|ak fun ρ p0=>by
 have hp0:=i6 p0 32 (by rfl)
 have:=@td ρ _ _ hp0 (.int 2)
 simp only[aa]at *;grind
def sR:List Fa:=[aoY,aoZ,ny,wH,ao0,tB,wI,ao1,ao2,ao3,ao4,ao5,ao6,ao7,ao8]
def Yt:List Ann:=(Cu (some (gQ 0 16)))::(Cv (some (gQ 2 24)))::(Cw (some (gQ 4 32)))::[]
theorem aBt:∀x∈Yt,gA Tryz.prog x:=by
 intro x hx;rcases List.mem_cons.1 hx with rfl|hx
 ·exact aEt
 rcases List.mem_cons.1 hx with rfl|hx
 ·exact aEu
 rcases List.mem_cons.1 hx with rfl|hx
 ·exact aEw
 exact mX [] (by kernel_rfl) x hx
theorem aHn:aV Tryz.prog (bz (aGK)):=
 ae1 good (facts:=fl sR) (oo _) (anns:=Yt) aBt (nats:=jO.l) jO.h (n:=3000) (ms:=[]) (by kernel_rfl)
def acv:Nl:=nc (abv (mss:=[sL,sL]) aHn) jO
end
end Go.Proofs.YtnggbcblogpnfaaGreat.combatDamages
