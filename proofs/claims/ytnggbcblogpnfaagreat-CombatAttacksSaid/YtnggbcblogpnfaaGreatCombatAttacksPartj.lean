/-
  CombatAttacks: contracts of functions, part 10.
-/
import Derived.Test.YtnggbcblogpnfaaGreatCombatAttacksParti
namespace Go.Proofs.YtnggbcblogpnfaaGreat.combatAttacks
open Go.ChangeShapes Go.WideShapes Go.ChangeAt Go.RowKit
open Go.SX
open Go.SX.E (fn pr cmp var)
set_option linter.unusedVariables false
set_option linter.unusedSimpArgs false
set_option maxRecDepth 100000
noncomputable section
abbrev U0:E:=var 0
abbrev U1:E:=fn 158 (pr U0 (fn 9 (pr U0 (.int 5))))
abbrev U2:E:=var 11
abbrev U3:E:=cmp .lss U2 (fn 9 (pr U0 (.int 5)))
abbrev U4:E:=cmp .lss U2 (.int 0)
abbrev U5:E:=.not U4
abbrev U6:E:=cmp .lss (.int 2147483648) (fn 9 (pr (fn 1 (pr U0 (fn 6 (pr (fn 8 (pr U2 (.int 5))) (.int 4))))) (.int 2)))
abbrev U7:E:=.not U6
abbrev U8:E:=.not (cmp .lss (fn 9 (pr U0 (.int 5))) U2)
abbrev U9:E:=cmp .eql U2 (.int 0)
abbrev Ut:=[U9]
abbrev ga:E:=var 9
abbrev pS:E:=cmp .eql ga U2
abbrev wg:E:=.not (cmp .lss ga (.int 1))
abbrev bS:E:=var 8
abbrev IG:E:=fn 181 (pr bS (pr U0 (fn 8 (pr U2 (.int 5)))))
abbrev wh:E:=cmp .eql (fn 0 bS) (fn 8 (pr ga (.int 5)))
abbrev Be:E:=var 12
abbrev U18:E:=pr (fn 28 (pr (pr Be ga) bS)) U0
abbrev UA:E:=fn 187 U18
abbrev U20:E:=cmp .lss (.int 20) (fn 9 (pr U0 (.int 5)))
abbrev UB:E:=.not U20
abbrev UC:=UB::Ut
abbrev U23:=U5::UC
abbrev Bf:=U3::U23
abbrev U25:E:=cmp .lss (.ar .add .i64 U2 (.int 1)) (.int 0)
abbrev UD:E:=.not U25
abbrev wi:E:=var 10
abbrev IH:E:=fn 190 U0
abbrev U29:E:=cmp .lss (fn 9 (pr U0 (.int 5))) (.ar .add .i64 U2 (.int 1))
abbrev UE:E:=.not U29
abbrev wj:=[UB]
abbrev U32:=wg::wj
abbrev UF:=pS::U32
abbrev UG:=U3::UF
abbrev U35:=U8::wj
abbrev U36:=wg::U35
abbrev U37:=pS::U36
abbrev UH:=U3::U37
abbrev UI:E:=pr U0 (fn 8 (pr (.ar .add .i64 U2 (.int 1)) (.int 5)))
abbrev UJ:E:=cmp .lss (fn 7 (pr (fn 9 (pr U0 (.int 5))) (.ar .add .i64 U2 (.int 1)))) (fn 7 (pr (fn 9 (pr U0 (.int 5))) U2))
abbrev U41:E:=cmp .lss (fn 7 (pr (fn 9 (pr U0 (.int 5))) (.ar .add .i64 U2 (.int 1)))) (.int 0)
abbrev UK:E:=.not U41
abbrev II:E:=fn 117 U0
abbrev d9:=[II]
abbrev IJ:E:=fn 116 U0
abbrev bk:E:=var 16
abbrev eD:E:=var 24
abbrev bl:E:=var 1
abbrev IK:List E:=[(fn 12 (pr U0 bl))]
abbrev UL:E:=cmp .lss bS (fn 0 U0)
abbrev U51:E:=cmp .lss bS (.int 0)
abbrev IL:E:=.not U51
abbrev U53:E:=cmp .lss (.int 100) (fn 0 U0)
abbrev U54:E:=.not U53
abbrev U55:=[U54]
abbrev U56:=IL::U55
abbrev UM:=UL::U56
abbrev U58:E:=cmp .lss (.ar .add .i64 bS (.int 1)) (.int 0)
abbrev UN:E:=.not U58
abbrev jM:E:=var 4
abbrev IM:List E:=[(fn 12 (pr jM ga))]
abbrev IN:E:=cmp .lss bk (fn 9 (pr jM (.int 2)))
abbrev U63:E:=cmp .lss (fn 9 (pr jM (.int 2))) bk
abbrev UO:E:=.not U63
abbrev wk:E:=.bool true
abbrev U66:E:=cmp .lss bk (.int 0)
abbrev UP:E:=.not U66
abbrev U68:E:=cmp .lss (.int 6) (fn 9 (pr jM (.int 2)))
abbrev U69:E:=.not U68
abbrev U70:=[U69]
abbrev UQ:=UP::U70
abbrev UR:=IN::UQ
abbrev U73:E:=cmp .lss (.ar .add .i64 bk (.int 1)) (.int 0)
abbrev US:E:=.not U73
abbrev U75:=UO::UQ
abbrev UT:=IN::U75
abbrev IP:E:=fn 187 (pr bl U0)
abbrev Bg:E:=cmp .lss bS (fn 9 (pr U0 (.int 5)))
abbrev U79:E:=cmp .lss (fn 9 (pr U0 (.int 5))) bS
abbrev UU:E:=.not U79
abbrev U81:=[IL]
abbrev UV:=Bg::U81
abbrev wl:=IP::UV
abbrev UW:=IL::wj
abbrev UX:=Bg::UW
abbrev U86:=UU::UW
abbrev UY:=Bg::U86
abbrev IQ:E:=fn 189 (pr bl U0)
abbrev UZ:E:=cmp .lss bk (fn 9 (pr (fn 1 (pr U0 (.int 0))) (.int 12)))
abbrev cL:=[IQ]
abbrev U91:=[UP]
abbrev IR:=UZ::U91
abbrev Va:=II::IR
abbrev Vb:E:=cmp .lss eD (fn 9 (pr (fn 1 (pr U0 (.int 32))) (.int 2)))
abbrev U95:E:=cmp .lss eD (.int 0)
abbrev U96:E:=.not U95
abbrev U97:=[U96]
abbrev U98:=Vb::U97
abbrev Bh:=II::U98
abbrev dF:E:=var 48
abbrev A7:E:=cmp .lss dF (.int 4)
abbrev Uu:E:=cmp .eql dF (.int 0)
abbrev wc:E:=cmp .eql dF (.int 1)
abbrev wd:E:=cmp .eql dF (.int 2)
abbrev ax0:E:=cmp .lss dF (.int 0)
abbrev ax1:E:=.not ax0
abbrev A8:=[ax1]
abbrev A9:E:=.not (cmp .lss (.ar .add .i64 dF (.int 1)) (.int 0))
abbrev ax2:=Uu::A8
abbrev IE:=A7::ax2
abbrev ax3:E:=cmp .lss (.int 4) dF
abbrev ax4:E:=.not ax3
abbrev ax5:=ax4::A8
abbrev Uv:=A7::ax5
abbrev Ba:E:=.not (cmp .lss (.int 4) (.ar .add .i64 dF (.int 1)))
abbrev IF:E:=cmp .lss (fn 7 (pr (.int 4) (.ar .add .i64 dF (.int 1)))) (fn 7 (pr (.int 4) dF))
abbrev Bb:E:=.not (cmp .lss (fn 7 (pr (.int 4) (.ar .add .i64 dF (.int 1)))) (.int 0))
abbrev gA:E:=var 32
abbrev ax6:E:=cmp .eql gA (.int 0)
abbrev Bc:=[ax6]
abbrev ax7:E:=cmp .lss (.ar .add .i64 gA (.int 1)) (.int 0)
abbrev Uw:E:=.not ax7
abbrev ax8:E:=cmp .eql gA (.int 1)
abbrev Bd:=[ax8]
abbrev ax9:E:=cmp .lss (.int 2) (.ar .add .i64 gA (.int 1))
abbrev Ux:E:=.not ax9
abbrev Uy:E:=cmp .lss (fn 7 (pr (.int 2) (.ar .add .i64 gA (.int 1)))) (fn 7 (pr (.int 2) gA))
abbrev aya:E:=cmp .lss (fn 7 (pr (.int 2) (.ar .add .i64 gA (.int 1)))) (.int 0)
abbrev Uz:E:=.not aya
def aoC:=fb [U1,U3,U5] U7<|am fun F p0 p1 p2=>by
 have hr0:0<=E.I F _->E.I F _<E.I F _->E.I F (fn 9 (pr (fn 1 _) _))<=6:=fun h0 h1=>@ND F _ U2 _ p0 h0 h1
 simp only[aa]at *;grind
def aoD:=fb ((.not U3)::U8::Ut) (fn 187 (pr (fn 30 (.int 0)) U0))<|am fun F p0 p1 p2=>by
 have:=fun h0=>@aKL F (fn 30 (.int 0)) U0 rfl h0
 simp only[aa]at *;grind
def aoE:=fb [U1,U3,pS,wg] U7<|aB fun F p0 p1 p2 p3=>by
 have hr0:0<=E.I F _->E.I F _<E.I F _->E.I F (fn 9 (pr (fn 1 _) _))<=6:=fun h0 h1=>@ND F _ U2 _ p0 h0 h1
 simp only[aa]at *;grind
def aoF:=fb [(.not U3),IG,wh,pS,U8] UA<|aK fun F p0 p1 p2 p3 p4=>by
 have:=fun h1 h2=>@afP F _ _ _ (pr Be ga) p1 h1 h2
 simp only[aa]at *;grind
def aoG:=fb Bf UD<|aB fun F p0 p1 p2 p3=>by
 simp only[aa,ae]at *
 obtain⟨a,b,c⟩:=ab (E.I F U2+1)
 omega
def aoH:=fa ((fn 195 (fn 30 (.int 0))))<|fun F=>by
 rfl
def aoI:=fb [(.not (cmp .lss wi ga)),wg] (.not (cmp .lss wi (.int 0)))<|ap fun F p0 p1=>by
 simp only[aa]at *;grind
def aoJ:=fb [(.not U3),IG,wh,pS,U8,IH] (fn 195 (fn 28 (pr (pr Be ga) bS)))<|bL fun F p0 p1 p2 p3 p4 p5=>by
 have h187:E.B F UA=true:=by
  have:=fun h1 h2=>@afP F _ _ _ (pr Be ga) p1 h1 h2
  simp only[aa]at *;grind
 grind[aKR]
def aoK:=fb Bf UE<|aB fun F p0 p1 p2 p3=>by
 simp only[aa,ae]at *
 obtain⟨a,b,c⟩:=ab (E.I F U2+1)
 omega
def aoL:=fb (U3::pS::wj) (.not (cmp .lss (.int 2147483648) (fn 6 (pr ga (.int 1)))))<|am fun F p0 p1 p2=>by
 simp only[aa]at *;grind
def aoM:=fb UG UD<|aB fun F p0 p1 p2 p3=>by
 simp only[aa,ae]at *
 obtain⟨a,b,c⟩:=ab (E.I F U2+1)
 omega
def aoN:=fa ((cmp .eql (fn 8 (pr (.int 1) (.int 5))) (.int 5)))<|fun F=>by
 rfl
def aoO:=fb UH UE<|aK fun F p0 p1 p2 p3 p4=>by
 simp only[aa,ae]at *
 obtain⟨a,b,c⟩:=ab (E.I F U2+1)
 omega
def aoP:=fb (U3::U5::IH::UC) (fn 181 (pr (fn 23 (pr (fn 1 (pr U0 (fn 6 (pr (fn 8 (pr U2 (.int 5))) (.int 0))))) (fn 23 (pr (fn 1 (pr U0 (fn 6 (pr (fn 8 (pr U2 (.int 5))) (.int 1))))) (fn 23 (pr (fn 1 (pr U0 (fn 6 (pr (fn 8 (pr U2 (.int 5))) (.int 2))))) (fn 23 (pr (fn 1 (pr U0 (fn 6 (pr (fn 8 (pr U2 (.int 5))) (.int 3))))) (fn 23 (pr (fn 28 (pr (pr (var 13) (fn 9 (pr (fn 1 (pr U0 (fn 6 (pr (fn 8 (pr U2 (.int 5))) (.int 4))))) (.int 2)))) (fn 1 (pr U0 (fn 6 (pr (fn 8 (pr U2 (.int 5))) (.int 4))))))) (fn 10 (.int 0)))))))))))) UI))<|aK fun F p0 p1 p2 p3 p4=>by
 have:=@bH F U2 (.int 1)
 have hr2:E.I F _=0->E.I F _<E.I F _->E.I F _=(E.I F _+1)*5->E.B F (fn _ (pr (fn 23 (pr (fn 1 _) (fn 23 (pr (fn 1 _) (fn 23 (pr (fn 1 _) (fn 23 (pr (fn 1 _) (fn 23 (pr (fn 28 (pr _ (fn 1 _))) _)))))))))) _))=true:=fun h0 h3 h4=>@aKJ F _ U2 (fn 8 (pr (.ar .add .i64 U2 (.int 1)) (.int 5))) p2 h0 h3 h4 (var 13) (fn 9 (pr (fn 1 (pr U0 (fn 6 (pr (fn 8 (pr U2 (.int 5))) (.int 4))))) (.int 2)))
 simp only[aa]at *;grind
def aoQ:=fb (U3::wh::UF) (cmp .eql (fn 6 (pr ga (.int 1))) (.ar .add .i64 U2 (.int 1)))<|aK fun F p0 p1 p2 p3 p4=>by
 simp only[aa,ae]at *
 obtain⟨a,b,c⟩:=ab (E.I F U2+1)
 omega
def aoR:=fb Bf UJ<|aB fun F p0 p1 p2 p3=>by
 simp only[aa,ae]at *
 obtain⟨a,b,c⟩:=ab (E.I F U2+1)
 omega
def aoS:=fb [wh] (cmp .eql (fn 6 (pr (fn 0 bS) (.int 5))) (fn 8 (pr (fn 6 (pr ga (.int 1))) (.int 5))))<|ah fun F p0=>by
 simp only[aa]at *;grind
def aoT:=fb Bf UK<|aB fun F p0 p1 p2 p3=>by
 simp only[aa,ae]at *
 obtain⟨a,b,c⟩:=ab (E.I F U2+1)
 omega
def aoU:=fb (U3::IG::wh::pS::wg::IH::wj) (fn 181 (pr (fn 3 (pr bS (fn 23 (pr (fn 1 (pr U0 (fn 6 (pr (fn 8 (pr U2 (.int 5))) (.int 0))))) (fn 23 (pr (fn 1 (pr U0 (fn 6 (pr (fn 8 (pr U2 (.int 5))) (.int 1))))) (fn 23 (pr (fn 1 (pr U0 (fn 6 (pr (fn 8 (pr U2 (.int 5))) (.int 2))))) (fn 23 (pr (fn 1 (pr U0 (fn 6 (pr (fn 8 (pr U2 (.int 5))) (.int 3))))) (fn 23 (pr (fn 28 (pr (pr (var 13) (fn 9 (pr (fn 1 (pr U0 (fn 6 (pr (fn 8 (pr U2 (.int 5))) (.int 4))))) (.int 2)))) (fn 1 (pr U0 (fn 6 (pr (fn 8 (pr U2 (.int 5))) (.int 4))))))) (fn 10 (.int 0)))))))))))))) UI))<|cV fun F p0 p1 p2 p3 p4 p5 p6=>by
 have:=@bH F U2 (.int 1)
 have hr2:0<=E.I F _->E.I F _=E.I F _*5->E.I F _=E.I F _*5->E.I F _<E.I F _->E.I F _=(E.I F _+1)*5->E.B F (fn _ (pr (fn 3 (pr _ (fn 23 (pr (fn 1 _) (fn 23 (pr (fn 1 _) (fn 23 (pr (fn 1 _) (fn 23 (pr (fn 1 _) (fn 23 (pr (fn 28 (pr _ (fn 1 _))) _)))))))))))) _))=true:=fun h0 h1 h2 h3 h4=>@aKK F _ _ U2 (fn 8 (pr (.ar .add .i64 U2 (.int 1)) (.int 5))) _ p1 p5 h0 h1 h2 h3 h4 (var 13) (fn 9 (pr (fn 1 (pr U0 (fn 6 (pr (fn 8 (pr U2 (.int 5))) (.int 4))))) (.int 2)))
 simp only[aa]at *;grind
def aoV:=fb UG UJ<|aB fun F p0 p1 p2 p3=>by
 simp only[aa,ae]at *
 obtain⟨a,b,c⟩:=ab (E.I F U2+1)
 omega
def aoW:=fb UH UK<|aK fun F p0 p1 p2 p3 p4=>by
 simp only[aa,ae]at *
 obtain⟨a,b,c⟩:=ab (E.I F U2+1)
 omega
def iV:List Fa:=[cY,aoC,aoD,aoE,aoF,aoG,aoH,aoI,aoJ,aoK,aoL,PI,aoM,aoN,aoO,aoP,aoQ,aoR,aoS,aoT,aoU,aoV,aoW]
theorem aI5:aR Tryz.prog (bj (aH6)):=sc iV (aC4) acU (aGA) (by kernel_rfl) (by kernel_rfl)
def Et:Nl:=nc aI5 acU
def GV:=fb d9 (.not (cmp .lss (.int 2147483648) (fn 9 (pr (fn 1 (pr U0 (.int 0))) (.int 12)))))<|ah fun F p0=>by
 have:=ak p0
 simp only[aa]at *;omega
def GW:=fb d9 (.not (cmp .lss (.int 2147483648) (fn 0 (fn 1 (pr U0 (.int 6))))))<|ah fun F p0=>by
 have:=ak p0
 simp only[aa]at *;omega
def GX:=fb d9 (.not (cmp .lss (.int 2147483648) (fn 0 (fn 1 (pr U0 (.int 7))))))<|ah fun F p0=>by
 have:=ak p0
 simp only[aa]at *;omega
def GY:=fb d9 (.not (cmp .lss (.int 2147483648) (fn 0 (fn 1 (pr U0 (.int 8))))))<|ah fun F p0=>by
 have:=ak p0
 simp only[aa]at *;omega
def GZ:=fb d9 (.not (cmp .lss (.int 2147483648) (fn 0 (fn 1 (pr U0 (.int 9))))))<|ah fun F p0=>by
 have:=ak p0
 simp only[aa]at *;omega
def Ha:=fb d9 (.not (cmp .lss (.int 2147483648) (fn 0 (fn 1 (pr U0 (.int 20))))))<|ah fun F p0=>by
 have:=ak p0
 simp only[aa]at *;omega
def Hb:=fb d9 (.not (cmp .lss (.int 2147483648) (fn 0 (fn 1 (pr U0 (.int 21))))))<|ah fun F p0=>by
 have:=ak p0
 simp only[aa]at *;omega
def Hc:=fb d9 (.not (cmp .lss (.int 2147483648) (fn 0 (fn 1 (pr U0 (.int 22))))))<|ah fun F p0=>by
 have:=ak p0
 simp only[aa]at *;omega
def Hd:=fb d9 (.not (cmp .lss (.int 2147483648) (fn 0 (fn 1 (pr U0 (.int 23))))))<|ah fun F p0=>by
 have:=ak p0
 simp only[aa]at *;omega
def vA:=fb d9 (fn 158 (pr (fn 1 (pr U0 (.int 29))) (fn 9 (pr (fn 1 (pr U0 (.int 29))) (.int 5)))))<|ah fun F p0=>by
 simp_all[gv]
def Ab:=fb [IJ] (fn 190 (fn 1 (pr U0 (.int 29))))<|ah fun F p0=>by
 have:=afT p0 29 (by decide)
 omega
def vB:=fb d9 (fn 158 (pr (fn 1 (pr U0 (.int 30))) (fn 9 (pr (fn 1 (pr U0 (.int 30))) (.int 5)))))<|ah fun F p0=>by
 simp_all[gv]
def Ac:=fb [IJ] (fn 190 (fn 1 (pr U0 (.int 30))))<|ah fun F p0=>by
 have:=afT p0 30 (by decide)
 omega
def He:=fb d9 (.not (cmp .lss (.int 2147483648) (fn 0 (fn 1 (pr U0 (.int 31))))))<|ah fun F p0=>by
 have:=ak p0
 simp only[aa]at *;omega
def Hf:=fb d9 (.not (cmp .lss (.int 2147483648) (fn 9 (pr (fn 1 (pr U0 (.int 32))) (.int 2)))))<|ah fun F p0=>by
 have:=ak p0
 simp only[aa]at *;omega
def PR:=fb [IJ,(fn 187 (pr wi (fn 1 (pr U0 (.int 29))))),(fn 187 (pr U2 (fn 1 (pr U0 (.int 30)))))] (fn 189 (pr (cr [(fn 28 (pr (pr (var 14) (fn 9 (pr (fn 1 (pr U0 (.int 0))) (.int 12)))) (fn 1 (pr U0 (.int 0))))),(fn 1 (pr U0 (.int 1))),(fn 1 (pr U0 (.int 2))),(fn 1 (pr U0 (.int 3))),(fn 1 (pr U0 (.int 4))),(fn 1 (pr U0 (.int 5))),(fn 28 (pr (pr (var 15) (fn 0 (fn 1 (pr U0 (.int 6))))) (fn 1 (pr U0 (.int 6))))),(fn 28 (pr (pr bk (fn 0 (fn 1 (pr U0 (.int 7))))) (fn 1 (pr U0 (.int 7))))),(fn 28 (pr (pr (var 17) (fn 0 (fn 1 (pr U0 (.int 8))))) (fn 1 (pr U0 (.int 8))))),(fn 28 (pr (pr (var 18) (fn 0 (fn 1 (pr U0 (.int 9))))) (fn 1 (pr U0 (.int 9))))),(fn 1 (pr U0 (.int 10))),(fn 1 (pr U0 (.int 11))),(fn 1 (pr U0 (.int 12))),(fn 1 (pr U0 (.int 13))),(fn 1 (pr U0 (.int 14))),(fn 1 (pr U0 (.int 15))),(fn 1 (pr U0 (.int 16))),(fn 1 (pr U0 (.int 17))),(fn 1 (pr U0 (.int 18))),(fn 1 (pr U0 (.int 19))),(fn 28 (pr (pr (var 19) (fn 0 (fn 1 (pr U0 (.int 20))))) (fn 1 (pr U0 (.int 20))))),(fn 28 (pr (pr (var 20) (fn 0 (fn 1 (pr U0 (.int 21))))) (fn 1 (pr U0 (.int 21))))),(fn 28 (pr (pr (var 21) (fn 0 (fn 1 (pr U0 (.int 22))))) (fn 1 (pr U0 (.int 22))))),(fn 28 (pr (pr (var 22) (fn 0 (fn 1 (pr U0 (.int 23))))) (fn 1 (pr U0 (.int 23))))),(fn 1 (pr U0 (.int 24))),(fn 1 (pr U0 (.int 25))),(fn 1 (pr U0 (.int 26))),(fn 1 (pr U0 (.int 27))),(fn 1 (pr U0 (.int 28))),wi,U2,(fn 28 (pr (pr (var 23) (fn 0 (fn 1 (pr U0 (.int 31))))) (fn 1 (pr U0 (.int 31))))),(fn 28 (pr (pr eD (fn 9 (pr (fn 1 (pr U0 (.int 32))) (.int 2)))) (fn 1 (pr U0 (.int 32))))),(fn 1 (pr U0 (.int 33))),(fn 1 (pr U0 (.int 34))),(fn 1 (pr U0 (.int 35))),(fn 1 (pr U0 (.int 36))),(fn 1 (pr U0 (.int 37)))]) U0))<|am fun F p0 p1 p2=>by
 have h1:=@aKO F U0 [(fn 28 (pr (pr (var 14) (fn 9 (pr (fn 1 (pr U0 (.int 0))) (.int 12)))) (fn 1 (pr U0 (.int 0))))),(fn 1 (pr U0 (.int 1))),(fn 1 (pr U0 (.int 2))),(fn 1 (pr U0 (.int 3))),(fn 1 (pr U0 (.int 4))),(fn 1 (pr U0 (.int 5))),(fn 28 (pr (pr (var 15) (fn 0 (fn 1 (pr U0 (.int 6))))) (fn 1 (pr U0 (.int 6))))),(fn 28 (pr (pr bk (fn 0 (fn 1 (pr U0 (.int 7))))) (fn 1 (pr U0 (.int 7))))),(fn 28 (pr (pr (var 17) (fn 0 (fn 1 (pr U0 (.int 8))))) (fn 1 (pr U0 (.int 8))))),(fn 28 (pr (pr (var 18) (fn 0 (fn 1 (pr U0 (.int 9))))) (fn 1 (pr U0 (.int 9))))),(fn 1 (pr U0 (.int 10))),(fn 1 (pr U0 (.int 11))),(fn 1 (pr U0 (.int 12))),(fn 1 (pr U0 (.int 13))),(fn 1 (pr U0 (.int 14))),(fn 1 (pr U0 (.int 15))),(fn 1 (pr U0 (.int 16))),(fn 1 (pr U0 (.int 17))),(fn 1 (pr U0 (.int 18))),(fn 1 (pr U0 (.int 19))),(fn 28 (pr (pr (var 19) (fn 0 (fn 1 (pr U0 (.int 20))))) (fn 1 (pr U0 (.int 20))))),(fn 28 (pr (pr (var 20) (fn 0 (fn 1 (pr U0 (.int 21))))) (fn 1 (pr U0 (.int 21))))),(fn 28 (pr (pr (var 21) (fn 0 (fn 1 (pr U0 (.int 22))))) (fn 1 (pr U0 (.int 22))))),(fn 28 (pr (pr (var 22) (fn 0 (fn 1 (pr U0 (.int 23))))) (fn 1 (pr U0 (.int 23))))),(fn 1 (pr U0 (.int 24))),(fn 1 (pr U0 (.int 25))),(fn 1 (pr U0 (.int 26))),(fn 1 (pr U0 (.int 27))),(fn 1 (pr U0 (.int 28))),wi,U2,(fn 28 (pr (pr (var 23) (fn 0 (fn 1 (pr U0 (.int 31))))) (fn 1 (pr U0 (.int 31))))),(fn 28 (pr (pr eD (fn 9 (pr (fn 1 (pr U0 (.int 32))) (.int 2)))) (fn 1 (pr U0 (.int 32))))),(fn 1 (pr U0 (.int 33))),(fn 1 (pr U0 (.int 34))),(fn 1 (pr U0 (.int 35))),(fn 1 (pr U0 (.int 36))),(fn 1 (pr U0 (.int 37)))] rfl;exact h1 (kc p0 0 rfl (by decide) rfl (dP 1 rfl (dP 2 rfl (dP 3 rfl (dP 4 rfl (dP 5 rfl (kc p0 6 rfl (by decide) rfl (kc p0 7 rfl (by decide) rfl (kc p0 8 rfl (by decide) rfl (kc p0 9 rfl (by decide) rfl (dP 10 rfl (dP 11 rfl (dP 12 rfl (dP 13 rfl (dP 14 rfl (dP 15 rfl (dP 16 rfl (dP 17 rfl (dP 18 rfl (dP 19 rfl (kc p0 20 rfl (by decide) rfl (kc p0 21 rfl (by decide) rfl (kc p0 22 rfl (by decide) rfl (kc p0 23 rfl (by decide) rfl (dP 24 rfl (dP 25 rfl (dP 26 rfl (dP 27 rfl (dP 28 rfl (ZZ 29 rfl p1 (ZZ 30 rfl p2 (kc p0 31 rfl (by decide) rfl (kc p0 32 rfl (by decide) rfl (dP 33 rfl (dP 34 rfl (dP 35 rfl (dP 36 rfl (dP 37 rfl trivial))))))))))))))))))))))))))))))))))))))
def im:List Fa:=[cY,GV,GW,GX,GY,GZ,Ha,Hb,Hc,Hd,lU,vA,Ab,rU,vB,Ac,He,Hf,PR]
theorem aI6:aR Tryz.prog (bj (afi)):=sc im ([]) Et (uc) (by kernel_rfl) (by kernel_rfl)
def Me:Nl:=nc aI6 Et
def aoX:=fb IK (cmp .eql (fn 0 U0) (fn 0 bl))<|ah fun F p0=>by
 have:=@afI F _ _ p0
 simp only[aa]at *;grind
def aoY:=fb (UL::(.not (cmp .lss (fn 0 U0) bS))::IK) (cmp .lss bS (fn 0 bl))<|am fun F p0 p1 p2=>by
 have:=@afI F _ _ p2
 simp_all
def aoZ:=fb IK (cmp .eql (fn 1 (pr U0 bS)) (fn 1 (pr bl bS)))<|ah fun F p0=>by
 have:=@iu F _ _ p0 bS
 simp only[aa]at *;grind
def PS:=fb UM UN<|am fun F p0 p1 p2=>by
 simp only[aa,ae]at *
 obtain⟨a,b,c⟩:=ab (E.I F bS+1)
 omega
def PT:=fb UM (cmp .lss (fn 7 (pr (fn 0 U0) (.ar .add .i64 bS (.int 1)))) (fn 7 (pr (fn 0 U0) bS)))<|am fun F p0 p1 p2=>by
 simp only[aa,ae]at *
 obtain⟨a,b,c⟩:=ab (E.I F bS+1)
 omega
def lC:List Fa:=[aoX,aoY,aoZ,PS,GS,PT,GU]
theorem aI7:aR Tryz.prog (bj (aIm)):=sc lC (aDc) Me ([]) (by kernel_rfl) (by kernel_rfl)
def acV:Nl:=nc aI7 Me
def ao0:=fb IM (cmp .eql (fn 9 (pr jM (.int 2))) (fn 9 (pr ga (.int 2))))<|ah fun F p0=>by
 have:=@rA F _ _ p0 (.int 2)
 simp only[aa]at *;grind
def ao1:=fb (IN::UO::IM) (cmp .lss bk (fn 9 (pr ga (.int 2))))<|am fun F p0 p1 p2=>by
 have:=@rA F _ _ p2 (.int 2)
 simp_all
def ao2:=fb IM (.and (cmp .eql (fn 1 (pr jM (fn 6 (pr (fn 8 (pr bk (.int 2))) (.int 0))))) (fn 1 (pr ga (fn 6 (pr (fn 8 (pr bk (.int 2))) (.int 0)))))) (.and (cmp .eql (fn 1 (pr jM (fn 6 (pr (fn 8 (pr bk (.int 2))) (.int 1))))) (fn 1 (pr ga (fn 6 (pr (fn 8 (pr bk (.int 2))) (.int 1)))))) wk))<|ah fun F p0=>by
 have:=@iu F _ _ p0 (fn 6 (pr (fn 8 (pr bk (.int 2))) (.int 0)))
 have:=@iu F _ _ p0 (fn 6 (pr (fn 8 (pr bk (.int 2))) (.int 1)))
 simp only[aa]at *;grind
def ao3:=fb UR US<|am fun F p0 p1 p2=>by
 simp only[aa,ae]at *
 obtain⟨a,b,c⟩:=ab (E.I F bk+1)
 omega
def ao4:=fb UT (.not (cmp .lss (fn 9 (pr jM (.int 2))) (.ar .add .i64 bk (.int 1))))<|aB fun F p0 p1 p2 p3=>by
 simp only[aa,ae]at *
 obtain⟨a,b,c⟩:=ab (E.I F bk+1)
 omega
def ao5:=fb UR (cmp .lss (fn 7 (pr (fn 9 (pr jM (.int 2))) (.ar .add .i64 bk (.int 1)))) (fn 7 (pr (fn 9 (pr jM (.int 2))) bk)))<|am fun F p0 p1 p2=>by
 simp only[aa,ae]at *
 obtain⟨a,b,c⟩:=ab (E.I F bk+1)
 omega
def ao6:=fb UT (.not (cmp .lss (fn 7 (pr (fn 9 (pr jM (.int 2))) (.ar .add .i64 bk (.int 1)))) (.int 0)))<|aB fun F p0 p1 p2 p3=>by
 simp only[aa,ae]at *
 obtain⟨a,b,c⟩:=ab (E.I F bk+1)
 omega
def lD:List Fa:=[ao0,ao1,ao2,ao3,ao4,ao5,ao6]
theorem aI8:aR Tryz.prog (bj (aIy)):=sc lD (aDo) acV ([]) (by kernel_rfl) (by kernel_rfl)
def acW:Nl:=nc aI8 acV
def ao7:=fb [IP] (cmp .eql (fn 9 (pr U0 (.int 5))) (fn 9 (pr bl (.int 5))))<|ah fun F p0=>by
 have:=@afQ F _ _ p0
 simp only[aa]at *;grind
def ao8:=fb [IP,Bg,UU] (cmp .lss bS (fn 9 (pr bl (.int 5))))<|am fun F p0 p1 p2=>by
 have:=@afQ F _ _ p0
 simp_all
def ao9:=fb wl (cmp .eql (fn 1 (pr U0 (fn 6 (pr (fn 8 (pr bS (.int 5))) (.int 0))))) (fn 1 (pr bl (fn 6 (pr (fn 8 (pr bS (.int 5))) (.int 0))))))<|am fun F p0 p1 p2=>by
 have hr1:0<=E.I F _->E.I F _<E.I F _->E.I F (fn 1 _)=E.I F (fn 1 _):=fun h0 h1=>@FW F _ _ bS p0 h0 h1 0 (by decide)
 simp only[aa]at *;grind
def apa:=fb wl (cmp .eql (fn 1 (pr U0 (fn 6 (pr (fn 8 (pr bS (.int 5))) (.int 1))))) (fn 1 (pr bl (fn 6 (pr (fn 8 (pr bS (.int 5))) (.int 1))))))<|am fun F p0 p1 p2=>by
 have hr1:0<=E.I F _->E.I F _<E.I F _->E.I F (fn 1 _)=E.I F (fn 1 _):=fun h0 h1=>@FW F _ _ bS p0 h0 h1 1 (by decide)
 simp only[aa]at *;grind
def apb:=fb wl (cmp .eql (fn 1 (pr U0 (fn 6 (pr (fn 8 (pr bS (.int 5))) (.int 2))))) (fn 1 (pr bl (fn 6 (pr (fn 8 (pr bS (.int 5))) (.int 2))))))<|am fun F p0 p1 p2=>by
 have hr1:0<=E.I F _->E.I F _<E.I F _->E.I F (fn 1 _)=E.I F (fn 1 _):=fun h0 h1=>@FW F _ _ bS p0 h0 h1 2 (by decide)
 simp only[aa]at *;grind
def apc:=fb wl (cmp .eql (fn 1 (pr U0 (fn 6 (pr (fn 8 (pr bS (.int 5))) (.int 3))))) (fn 1 (pr bl (fn 6 (pr (fn 8 (pr bS (.int 5))) (.int 3))))))<|am fun F p0 p1 p2=>by
 have hr1:0<=E.I F _->E.I F _<E.I F _->E.I F (fn 1 _)=E.I F (fn 1 _):=fun h0 h1=>@FW F _ _ bS p0 h0 h1 3 (by decide)
 simp only[aa]at *;grind
def apd:=fb wl (fn 12 (pr (fn 1 (pr U0 (fn 6 (pr (fn 8 (pr bS (.int 5))) (.int 4))))) (fn 1 (pr bl (fn 6 (pr (fn 8 (pr bS (.int 5))) (.int 4)))))))<|am fun F p0 p1 p2=>by
 have hr2:0<=E.I F _->E.I F _<E.I F _->E.B F (fn 12 (pr (fn 1 _) (fn 1 _)))=true:=fun h0 h1=>lN (@NE F _ _ bS p0 h0 h1 4 (by decide))
 simp only[aa]at *;grind
def ape:=fb (U1::UV) (.not (cmp .lss (.int 6) (fn 9 (pr (fn 1 (pr U0 (fn 6 (pr (fn 8 (pr bS (.int 5))) (.int 4))))) (.int 2)))))<|am fun F p0 p1 p2=>by
 have hr2:0<=E.I F _->E.I F _<E.I F _->E.I F (fn 9 (pr (fn 1 _) _))<=6:=fun h0 h1=>@ND F _ bS _ p0 h0 h1
 simp only[aa]at *;grind
def apf:=fb UX UN<|am fun F p0 p1 p2=>by
 simp only[aa,ae]at *
 obtain⟨a,b,c⟩:=ab (E.I F bS+1)
 omega
def apg:=fb UY (.not (cmp .lss (fn 9 (pr U0 (.int 5))) (.ar .add .i64 bS (.int 1))))<|aB fun F p0 p1 p2 p3=>by
 simp only[aa,ae]at *
 obtain⟨a,b,c⟩:=ab (E.I F bS+1)
 omega
def aph:=fb UX (cmp .lss (fn 7 (pr (fn 9 (pr U0 (.int 5))) (.ar .add .i64 bS (.int 1)))) (fn 7 (pr (fn 9 (pr U0 (.int 5))) bS)))<|am fun F p0 p1 p2=>by
 simp only[aa,ae]at *
 obtain⟨a,b,c⟩:=ab (E.I F bS+1)
 omega
def api:=fb UY (.not (cmp .lss (fn 7 (pr (fn 9 (pr U0 (.int 5))) (.ar .add .i64 bS (.int 1)))) (.int 0)))<|aB fun F p0 p1 p2 p3=>by
 simp only[aa,ae]at *
 obtain⟨a,b,c⟩:=ab (E.I F bS+1)
 omega
def ri:List Fa:=[ao7,ao8,ao9,apa,apb,apc,apd,ape,apf,apg,aph,api]
theorem aI9:aR Tryz.prog (bj (aIk)):=sc ri (aDa) acW ([]) (by kernel_rfl) (by kernel_rfl)
def iT:Nl:=nc aI9 acW
def apj:=fb [IQ,UZ,(.not (cmp .lss (fn 9 (pr (fn 1 (pr U0 (.int 0))) (.int 12))) bk))] (cmp .lss bk (fn 9 (pr (fn 1 (pr bl (.int 0))) (.int 12))))<|am fun F p0 p1 p2=>by
 have hp0:=gS p0 0 (by rfl)
 have:=@rA F _ _ hp0 (.int 12)
 simp_all
def apk:=fb cL (.and (cmp .eql (fn 1 (pr (fn 1 (pr U0 (.int 0))) (fn 6 (pr (fn 8 (pr bk (.int 12))) (.int 0))))) (fn 1 (pr (fn 1 (pr bl (.int 0))) (fn 6 (pr (fn 8 (pr bk (.int 12))) (.int 0)))))) (.and (cmp .eql (fn 1 (pr (fn 1 (pr U0 (.int 0))) (fn 6 (pr (fn 8 (pr bk (.int 12))) (.int 1))))) (fn 1 (pr (fn 1 (pr bl (.int 0))) (fn 6 (pr (fn 8 (pr bk (.int 12))) (.int 1)))))) (.and (cmp .eql (fn 1 (pr (fn 1 (pr U0 (.int 0))) (fn 6 (pr (fn 8 (pr bk (.int 12))) (.int 2))))) (fn 1 (pr (fn 1 (pr bl (.int 0))) (fn 6 (pr (fn 8 (pr bk (.int 12))) (.int 2)))))) (.and (cmp .eql (fn 1 (pr (fn 1 (pr U0 (.int 0))) (fn 6 (pr (fn 8 (pr bk (.int 12))) (.int 3))))) (fn 1 (pr (fn 1 (pr bl (.int 0))) (fn 6 (pr (fn 8 (pr bk (.int 12))) (.int 3)))))) (.and (cmp .eql (fn 1 (pr (fn 1 (pr U0 (.int 0))) (fn 6 (pr (fn 8 (pr bk (.int 12))) (.int 4))))) (fn 1 (pr (fn 1 (pr bl (.int 0))) (fn 6 (pr (fn 8 (pr bk (.int 12))) (.int 4)))))) (.and (cmp .eql (fn 1 (pr (fn 1 (pr U0 (.int 0))) (fn 6 (pr (fn 8 (pr bk (.int 12))) (.int 5))))) (fn 1 (pr (fn 1 (pr bl (.int 0))) (fn 6 (pr (fn 8 (pr bk (.int 12))) (.int 5)))))) (.and (cmp .eql (fn 1 (pr (fn 1 (pr U0 (.int 0))) (fn 6 (pr (fn 8 (pr bk (.int 12))) (.int 6))))) (fn 1 (pr (fn 1 (pr bl (.int 0))) (fn 6 (pr (fn 8 (pr bk (.int 12))) (.int 6)))))) (.and (cmp .eql (fn 1 (pr (fn 1 (pr U0 (.int 0))) (fn 6 (pr (fn 8 (pr bk (.int 12))) (.int 7))))) (fn 1 (pr (fn 1 (pr bl (.int 0))) (fn 6 (pr (fn 8 (pr bk (.int 12))) (.int 7)))))) (.and (cmp .eql (fn 1 (pr (fn 1 (pr U0 (.int 0))) (fn 6 (pr (fn 8 (pr bk (.int 12))) (.int 8))))) (fn 1 (pr (fn 1 (pr bl (.int 0))) (fn 6 (pr (fn 8 (pr bk (.int 12))) (.int 8)))))) (.and (.iff (fn 1 (pr (fn 1 (pr U0 (.int 0))) (fn 6 (pr (fn 8 (pr bk (.int 12))) (.int 9))))) (fn 1 (pr (fn 1 (pr bl (.int 0))) (fn 6 (pr (fn 8 (pr bk (.int 12))) (.int 9)))))) (.and (.iff (fn 1 (pr (fn 1 (pr U0 (.int 0))) (fn 6 (pr (fn 8 (pr bk (.int 12))) (.int 10))))) (fn 1 (pr (fn 1 (pr bl (.int 0))) (fn 6 (pr (fn 8 (pr bk (.int 12))) (.int 10)))))) (.and (.iff (fn 1 (pr (fn 1 (pr U0 (.int 0))) (fn 6 (pr (fn 8 (pr bk (.int 12))) (.int 11))))) (fn 1 (pr (fn 1 (pr bl (.int 0))) (fn 6 (pr (fn 8 (pr bk (.int 12))) (.int 11)))))) wk))))))))))))<|ah fun F p0=>by
 have hp0:=gS p0 0 (by rfl)
 have:=@iu F _ _ hp0 (fn 6 (pr (fn 8 (pr bk (.int 12))) (.int 0)))
 have:=@iu F _ _ hp0 (fn 6 (pr (fn 8 (pr bk (.int 12))) (.int 1)))
 have:=@iu F _ _ hp0 (fn 6 (pr (fn 8 (pr bk (.int 12))) (.int 2)))
 have:=@iu F _ _ hp0 (fn 6 (pr (fn 8 (pr bk (.int 12))) (.int 3)))
 have:=@iu F _ _ hp0 (fn 6 (pr (fn 8 (pr bk (.int 12))) (.int 4)))
 have:=@iu F _ _ hp0 (fn 6 (pr (fn 8 (pr bk (.int 12))) (.int 5)))
 have:=@iu F _ _ hp0 (fn 6 (pr (fn 8 (pr bk (.int 12))) (.int 6)))
 have:=@iu F _ _ hp0 (fn 6 (pr (fn 8 (pr bk (.int 12))) (.int 7)))
 have:=@iu F _ _ hp0 (fn 6 (pr (fn 8 (pr bk (.int 12))) (.int 8)))
 have:=@Nz F _ _ hp0 (fn 6 (pr (fn 8 (pr bk (.int 12))) (.int 9)))
 have:=@Nz F _ _ hp0 (fn 6 (pr (fn 8 (pr bk (.int 12))) (.int 10)))
 have:=@Nz F _ _ hp0 (fn 6 (pr (fn 8 (pr bk (.int 12))) (.int 11)))
 simp only[aa]at *;grind
def apl:=fb Va US<|am fun F p0 p1 p2=>by
 have:=ak p0
 simp only[aa,ae]at *
 obtain⟨a,b,c⟩:=ab (E.I F bk+1)
 omega
def apm:=fb IR (.not (cmp .lss (fn 9 (pr (fn 1 (pr U0 (.int 0))) (.int 12))) (.ar .add .i64 bk (.int 1))))<|ap fun F p0 p1=>by
 simp only[aa,ae]at *
 obtain⟨a,b,c⟩:=ab (E.I F bk+1)
 omega
def apn:=fb Va (cmp .lss (fn 7 (pr (fn 9 (pr (fn 1 (pr U0 (.int 0))) (.int 12))) (.ar .add .i64 bk (.int 1)))) (fn 7 (pr (fn 9 (pr (fn 1 (pr U0 (.int 0))) (.int 12))) bk)))<|am fun F p0 p1 p2=>by
 have:=ak p0
 simp only[aa,ae]at *
 obtain⟨a,b,c⟩:=ab (E.I F bk+1)
 omega
def apo:=fb IR (.not (cmp .lss (fn 7 (pr (fn 9 (pr (fn 1 (pr U0 (.int 0))) (.int 12))) (.ar .add .i64 bk (.int 1)))) (.int 0)))<|ap fun F p0 p1=>by
 simp only[aa,ae]at *
 obtain⟨a,b,c⟩:=ab (E.I F bk+1)
 omega
def aFL:List Fa:=[apj,apk,apl,apm,apn,apo]
theorem aDV:BodyOk Tryz.prog (Ch (some (fJ 0 16))) (fJ 0 16) (gp 0 16 5 dU).less (gp 0 16 5 dU).tmps {(gp 0 16 5 dU).st with pc:=(gp 0 16 5 dU).st.pc}:=
 xn good (facts:=fl aFL) (na _) (anns:=[]) (lF _ (by kernel_rfl)) (nats:=iT.l) iT.h (n:=3000) (by kernel_rfl) (by kernel_rfl)
theorem aDU:BodyOk Tryz.prog (Ch (some (fJ 0 16))) (fJ 0 16) (gp 0 16 5 dU).less (gp 0 16 5 dU).tmps (gp 0 16 5 dU).st:=aDV
theorem aF6:fB Tryz.prog (Ch (some (fJ 0 16))):=Ee rfl (by kernel_rfl) (by
 intro τ hτ;rcases List.mem_cons.1 hτ with rfl|hτ
 ·exact aDU
 cases hτ)
def apq:=fb [IQ,Vb,(.not (cmp .lss (fn 9 (pr (fn 1 (pr U0 (.int 32))) (.int 2))) eD))] (cmp .lss eD (fn 9 (pr (fn 1 (pr bl (.int 32))) (.int 2))))<|am fun F p0 p1 p2=>by
 have hp0:=gS p0 32 (by rfl)
 have:=@rA F _ _ hp0 (.int 2)
 simp_all
def apr:=fb cL (.and (cmp .eql (fn 1 (pr (fn 1 (pr U0 (.int 32))) (fn 6 (pr (fn 8 (pr eD (.int 2))) (.int 0))))) (fn 1 (pr (fn 1 (pr bl (.int 32))) (fn 6 (pr (fn 8 (pr eD (.int 2))) (.int 0)))))) (.and (cmp .eql (fn 1 (pr (fn 1 (pr U0 (.int 32))) (fn 6 (pr (fn 8 (pr eD (.int 2))) (.int 1))))) (fn 1 (pr (fn 1 (pr bl (.int 32))) (fn 6 (pr (fn 8 (pr eD (.int 2))) (.int 1)))))) wk))<|ah fun F p0=>by
 have hp0:=gS p0 32 (by rfl)
 have:=@iu F _ _ hp0 (fn 6 (pr (fn 8 (pr eD (.int 2))) (.int 0)))
 have:=@iu F _ _ hp0 (fn 6 (pr (fn 8 (pr eD (.int 2))) (.int 1)))
 simp only[aa]at *;grind
def aps:=fb Bh (.not (cmp .lss (.ar .add .i64 eD (.int 1)) (.int 0)))<|am fun F p0 p1 p2=>by
 have:=ak p0
 simp only[aa,ae]at *
 obtain⟨a,b,c⟩:=ab (E.I F eD+1)
 omega
def apt:=fb Bh (.not (cmp .lss (fn 9 (pr (fn 1 (pr U0 (.int 32))) (.int 2))) (.ar .add .i64 eD (.int 1))))<|am fun F p0 p1 p2=>by
 simp only[aa,ae]at *
 obtain⟨a,b,c⟩:=ab (E.I F eD+1)
 omega
def apu:=fb Bh (cmp .lss (fn 7 (pr (fn 9 (pr (fn 1 (pr U0 (.int 32))) (.int 2))) (.ar .add .i64 eD (.int 1)))) (fn 7 (pr (fn 9 (pr (fn 1 (pr U0 (.int 32))) (.int 2))) eD)))<|am fun F p0 p1 p2=>by
 have:=ak p0
 simp only[aa,ae]at *
 obtain⟨a,b,c⟩:=ab (E.I F eD+1)
 omega
def apv:=fb Bh (.not (cmp .lss (fn 7 (pr (fn 9 (pr (fn 1 (pr U0 (.int 32))) (.int 2))) (.ar .add .i64 eD (.int 1)))) (.int 0)))<|am fun F p0 p1 p2=>by
 simp only[aa,ae]at *
 obtain⟨a,b,c⟩:=ab (E.I F eD+1)
 omega
def aFM:List Fa:=[apq,apr,aps,apt,apu,apv]
theorem aDX:BodyOk Tryz.prog (Ci (some (fJ 2 24))) (fJ 2 24) (gp 2 24 6 gi).less (gp 2 24 6 gi).tmps {(gp 2 24 6 gi).st with pc:=(gp 2 24 6 gi).st.pc}:=
 xn good (facts:=fl aFM) (na _) (anns:=[]) (lF _ (by kernel_rfl)) (nats:=iT.l) iT.h (n:=3000) (by kernel_rfl) (by kernel_rfl)
theorem aDW:BodyOk Tryz.prog (Ci (some (fJ 2 24))) (fJ 2 24) (gp 2 24 6 gi).less (gp 2 24 6 gi).tmps (gp 2 24 6 gi).st:=aDX
theorem aF7:fB Tryz.prog (Ci (some (fJ 2 24))):=Ee rfl (by kernel_rfl) (by
 intro τ hτ;rcases List.mem_cons.1 hτ with rfl|hτ
 ·exact aDW
 cases hτ)
def apw:=fb cL (fn 12 (pr (fn 1 (pr U0 (.int 6))) (fn 1 (pr bl (.int 6)))))<|ah fun F p0=>by
 have hp0:=gS p0 6 (by rfl);grind[lN]
def apx:=fb cL (fn 12 (pr (fn 1 (pr U0 (.int 7))) (fn 1 (pr bl (.int 7)))))<|ah fun F p0=>by
 have hp0:=gS p0 7 (by rfl);grind[lN]
def apy:=fb cL (fn 12 (pr (fn 1 (pr U0 (.int 8))) (fn 1 (pr bl (.int 8)))))<|ah fun F p0=>by
 have hp0:=gS p0 8 (by rfl);grind[lN]
def apz:=fb cL (fn 12 (pr (fn 1 (pr U0 (.int 9))) (fn 1 (pr bl (.int 9)))))<|ah fun F p0=>by
 have hp0:=gS p0 9 (by rfl);grind[lN]
def apA:=fb d9 (.not (cmp .lss (.int 100) (fn 0 (fn 1 (pr U0 (.int 6))))))<|ah fun F p0=>by
 have:=ak p0
 simp only[aa]at *;grind
def apB:=fb d9 (.not (cmp .lss (.int 100) (fn 0 (fn 1 (pr U0 (.int 7))))))<|ah fun F p0=>by
 have:=ak p0
 simp only[aa]at *;grind
def apC:=fb d9 (.not (cmp .lss (.int 100) (fn 0 (fn 1 (pr U0 (.int 8))))))<|ah fun F p0=>by
 have:=ak p0
 simp only[aa]at *;grind
def apD:=fb d9 (.not (cmp .lss (.int 100) (fn 0 (fn 1 (pr U0 (.int 9))))))<|ah fun F p0=>by
 have:=ak p0
 simp only[aa]at *;grind
def PV:=fb (A7::(.not Uu)::(.not wc)::(.not wd)::A8) A9<|aK fun F p0 p1 p2 p3 p4=>by
 simp only[aa,ae]at *
 obtain⟨a,b,c⟩:=ab (E.I F dF+1)
 omega
def PW:=fb [wd] A9<|ah fun F p0=>by
 simp only[aa,ae]at *
 obtain⟨a,b,c⟩:=ab (E.I F dF+1)
 omega
def PX:=fb [wc] A9<|ah fun F p0=>by
 simp only[aa,ae]at *
 obtain⟨a,b,c⟩:=ab (E.I F dF+1)
 omega
def PY:=fb IE A9<|am fun F p0 p1 p2=>by
 simp only[aa,ae]at *
 obtain⟨a,b,c⟩:=ab (E.I F dF+1)
 omega
def PZ:=fb Uv Ba<|am fun F p0 p1 p2=>by
 simp only[aa,ae]at *
 obtain⟨a,b,c⟩:=ab (E.I F dF+1)
 omega
def P0:=fb [wd] Ba<|ah fun F p0=>by
 simp only[aa,ae]at *
 obtain⟨a,b,c⟩:=ab (E.I F dF+1)
 omega
def P1:=fb [wc] Ba<|ah fun F p0=>by
 simp only[aa,ae]at *
 obtain⟨a,b,c⟩:=ab (E.I F dF+1)
 omega
def P2:=fb IE Ba<|am fun F p0 p1 p2=>by
 simp only[aa,ae]at *
 obtain⟨a,b,c⟩:=ab (E.I F dF+1)
 omega
def P4:=fb (A7::A8) IF<|ap fun F p0 p1=>by
 simp only[aa,ae]at *
 obtain⟨a,b,c⟩:=ab (E.I F dF+1)
 omega
def P5:=fb [wd] IF<|ah fun F p0=>by
 simp only[aa,ae]at *
 obtain⟨a,b,c⟩:=ab (E.I F dF+1)
 omega
def P6:=fb [wc] IF<|ah fun F p0=>by
 simp only[aa,ae]at *
 obtain⟨a,b,c⟩:=ab (E.I F dF+1)
 omega
def P7:=fb Uv Bb<|am fun F p0 p1 p2=>by
 simp only[aa,ae]at *
 obtain⟨a,b,c⟩:=ab (E.I F dF+1)
 omega
def P8:=fb [wd] Bb<|ah fun F p0=>by
 simp only[aa,ae]at *
 obtain⟨a,b,c⟩:=ab (E.I F dF+1)
 omega
def P9:=fb [wc] Bb<|ah fun F p0=>by
 simp only[aa,ae]at *
 obtain⟨a,b,c⟩:=ab (E.I F dF+1)
 omega
def Qa:=fb IE Bb<|am fun F p0 p1 p2=>by
 simp only[aa,ae]at *
 obtain⟨a,b,c⟩:=ab (E.I F dF+1)
 omega
def aFN:List Fa:=[apw,apx,apy,apz,apA,apB,apC,apD,PV,PW,PX,PY,PZ,P0,P1,P2,P4,P5,P6,P7,P8,P9,Qa]
theorem aDZ:BodyOk Tryz.prog (sW (some lR)) lR (gq 0).less (gq 0).tmps {(gq 0).st with pc:=(gq 0).st.pc}:=
 xn good (facts:=fl aFN) (na _) (anns:=[]) (lF _ (by kernel_rfl)) (nats:=iT.l) iT.h (n:=3000) (by kernel_rfl) (by kernel_rfl)
theorem aDY:BodyOk Tryz.prog (sW (some lR)) lR (gq 0).less (gq 0).tmps (gq 0).st:=aDZ
def apE:=fb cL (fn 12 (pr (fn 1 (pr U0 (.int 20))) (fn 1 (pr bl (.int 20)))))<|ah fun F p0=>by
 have hp0:=gS p0 20 (by rfl);grind[lN]
def apF:=fb cL (fn 12 (pr (fn 1 (pr U0 (.int 21))) (fn 1 (pr bl (.int 21)))))<|ah fun F p0=>by
 have hp0:=gS p0 21 (by rfl);grind[lN]
def apG:=fb cL (fn 12 (pr (fn 1 (pr U0 (.int 22))) (fn 1 (pr bl (.int 22)))))<|ah fun F p0=>by
 have hp0:=gS p0 22 (by rfl);grind[lN]
def apH:=fb cL (fn 12 (pr (fn 1 (pr U0 (.int 23))) (fn 1 (pr bl (.int 23)))))<|ah fun F p0=>by
 have hp0:=gS p0 23 (by rfl);grind[lN]
def apI:=fb d9 (.not (cmp .lss (.int 100) (fn 0 (fn 1 (pr U0 (.int 20))))))<|ah fun F p0=>by
 have:=ak p0
 simp only[aa]at *;grind
def apJ:=fb d9 (.not (cmp .lss (.int 100) (fn 0 (fn 1 (pr U0 (.int 21))))))<|ah fun F p0=>by
 have:=ak p0
 simp only[aa]at *;grind
def apK:=fb d9 (.not (cmp .lss (.int 100) (fn 0 (fn 1 (pr U0 (.int 22))))))<|ah fun F p0=>by
 have:=ak p0
 simp only[aa]at *;grind
def apL:=fb d9 (.not (cmp .lss (.int 100) (fn 0 (fn 1 (pr U0 (.int 23))))))<|ah fun F p0=>by
 have:=ak p0
 simp only[aa]at *;grind
def aFO:List Fa:=[apE,apF,apG,apH,apI,apJ,apK,apL,PV,PW,PX,PY,PZ,P0,P1,P2,P4,P5,P6,P7,P8,P9,Qa]
theorem aD1:BodyOk Tryz.prog (sW (some lR)) lR (gq 1).less (gq 1).tmps {(gq 1).st with pc:=(gq 1).st.pc}:=
 xn good (facts:=fl aFO) (na _) (anns:=[]) (lF _ (by kernel_rfl)) (nats:=iT.l) iT.h (n:=3000) (by kernel_rfl) (by kernel_rfl)
theorem aD0:BodyOk Tryz.prog (sW (some lR)) lR (gq 1).less (gq 1).tmps (gq 1).st:=aD1
theorem aF8:fB Tryz.prog (sW (some lR)):=Ee rfl (by kernel_rfl) (by
 intro τ hτ;rcases List.mem_cons.1 hτ with rfl|hτ
 ·exact aDY
 rcases List.mem_cons.1 hτ with rfl|hτ
 ·exact aD0
 cases hτ)
def Zc:List Ann:=(sW (some lR))::[]
theorem aDv:∀x∈Zc,fB Tryz.prog x:=by
 intro x hx;rcases List.mem_cons.1 hx with rfl|hx
 ·exact aF8
 exact lF [] (by kernel_rfl) x hx
def apM:=fb cL (cmp .eql (fn 1 (pr U0 (.int 28))) (fn 1 (pr bl (.int 28))))<|ah fun F p0=>by
 have hi28:=fw p0 28 (by decide) rfl rfl rfl;simp only[aa]at *;grind
def apN:=fb Bc Uw<|ah fun F p0=>by
 simp only[aa,ae]at *
 obtain⟨a,b,c⟩:=ab (E.I F gA+1)
 omega
def apO:=fb Bd Uw<|ah fun F p0=>by
 simp only[aa,ae]at *
 obtain⟨a,b,c⟩:=ab (E.I F gA+1)
 omega
def apP:=fb cL (cmp .eql (fn 1 (pr U0 (.int 27))) (fn 1 (pr bl (.int 27))))<|ah fun F p0=>by
 have hi27:=fw p0 27 (by decide) rfl rfl rfl;simp only[aa]at *;grind
def apQ:=fb cL (.iff (fn 1 (pr U0 (.int 26))) (fn 1 (pr bl (.int 26))))<|ah fun F p0=>by
 have hb26:=uU p0 26 (by decide);simp_all
def apR:=fb cL (.iff (fn 1 (pr U0 (.int 25))) (fn 1 (pr bl (.int 25))))<|ah fun F p0=>by
 have hb25:=uU p0 25 (by decide);simp_all
def apS:=fb cL (.iff (fn 1 (pr U0 (.int 24))) (fn 1 (pr bl (.int 24))))<|ah fun F p0=>by
 have hb24:=uU p0 24 (by decide);simp_all
def apT:=fb cL (.and (cmp .eql (fn 1 (pr U0 (.int 16))) (fn 1 (pr bl (.int 16)))) (.and (cmp .eql (fn 1 (pr U0 (.int 17))) (fn 1 (pr bl (.int 17)))) (.and (cmp .eql (fn 1 (pr U0 (.int 18))) (fn 1 (pr bl (.int 18)))) (.and (cmp .eql (fn 1 (pr U0 (.int 19))) (fn 1 (pr bl (.int 19)))) wk))))<|ah fun F p0=>by
 have hi16:=fw p0 16 (by decide) rfl rfl rfl;have hi17:=fw p0 17 (by decide) rfl rfl rfl;have hi18:=fw p0 18 (by decide) rfl rfl rfl;have hi19:=fw p0 19 (by decide) rfl rfl rfl;simp only[aa]at *;grind
def apU:=fb cL (cmp .eql (fn 1 (pr U0 (.int 15))) (fn 1 (pr bl (.int 15))))<|ah fun F p0=>by
 have hi15:=fw p0 15 (by decide) rfl rfl rfl;simp only[aa]at *;grind
def apV:=fb cL (cmp .eql (fn 1 (pr U0 (.int 14))) (fn 1 (pr bl (.int 14))))<|ah fun F p0=>by
 have hi14:=fw p0 14 (by decide) rfl rfl rfl;simp only[aa]at *;grind
def apW:=fb cL (cmp .eql (fn 1 (pr U0 (.int 13))) (fn 1 (pr bl (.int 13))))<|ah fun F p0=>by
 have hi13:=fw p0 13 (by decide) rfl rfl rfl;simp only[aa]at *;grind
def apX:=fb cL (.iff (fn 1 (pr U0 (.int 12))) (fn 1 (pr bl (.int 12))))<|ah fun F p0=>by
 have hb12:=uU p0 12 (by decide);simp_all
def apY:=fb cL (.iff (fn 1 (pr U0 (.int 11))) (fn 1 (pr bl (.int 11))))<|ah fun F p0=>by
 have hb11:=uU p0 11 (by decide);simp_all
def apZ:=fb cL (.iff (fn 1 (pr U0 (.int 10))) (fn 1 (pr bl (.int 10))))<|ah fun F p0=>by
 have hb10:=uU p0 10 (by decide);simp_all
def ap0:=fb cL (.and (cmp .eql (fn 1 (pr U0 (.int 2))) (fn 1 (pr bl (.int 2)))) (.and (cmp .eql (fn 1 (pr U0 (.int 3))) (fn 1 (pr bl (.int 3)))) (.and (cmp .eql (fn 1 (pr U0 (.int 4))) (fn 1 (pr bl (.int 4)))) (.and (cmp .eql (fn 1 (pr U0 (.int 5))) (fn 1 (pr bl (.int 5)))) wk))))<|ah fun F p0=>by
 have hi2:=fw p0 2 (by decide) rfl rfl rfl;have hi3:=fw p0 3 (by decide) rfl rfl rfl;have hi4:=fw p0 4 (by decide) rfl rfl rfl;have hi5:=fw p0 5 (by decide) rfl rfl rfl;simp only[aa]at *;grind
def ap1:=fb cL (cmp .eql (fn 1 (pr U0 (.int 1))) (fn 1 (pr bl (.int 1))))<|ah fun F p0=>by
 have hi1:=fw p0 1 (by decide) rfl rfl rfl;simp only[aa]at *;grind
def ap2:=fb Bc Ux<|ah fun F p0=>by
 simp only[aa,ae]at *
 obtain⟨a,b,c⟩:=ab (E.I F gA+1)
 omega
def ap3:=fb Bd Ux<|ah fun F p0=>by
 simp only[aa,ae]at *
 obtain⟨a,b,c⟩:=ab (E.I F gA+1)
 omega
def ap4:=fb Bc Uy<|ah fun F p0=>by
 simp only[aa,ae]at *
 obtain⟨a,b,c⟩:=ab (E.I F gA+1)
 omega
def ap5:=fb Bd Uy<|ah fun F p0=>by
 simp only[aa,ae]at *
 obtain⟨a,b,c⟩:=ab (E.I F gA+1)
 omega
def ap6:=fb Bc Uz<|ah fun F p0=>by
 simp only[aa,ae]at *
 obtain⟨a,b,c⟩:=ab (E.I F gA+1)
 omega
def ap7:=fb Bd Uz<|ah fun F p0=>by
 simp only[aa,ae]at *
 obtain⟨a,b,c⟩:=ab (E.I F gA+1)
 omega
def aFP:List Fa:=[apM,apN,apO,apP,apQ,apR,apS,apT,apU,apV,apW,apX,apY,apZ,ap0,ap1,ap2,ap3,ap4,ap5,ap6,ap7]
theorem aD3:BodyOk Tryz.prog (Cj (some (fJ 4 32))) (fJ 4 32) (pw).less (pw).tmps {(pw).st with pc:=(pw).st.pc}:=
 xn good (facts:=fl aFP) (na _) (anns:=Zc) aDv (nats:=iT.l) iT.h (n:=3000) (by kernel_rfl) (by kernel_rfl)
theorem aD2:BodyOk Tryz.prog (Cj (some (fJ 4 32))) (fJ 4 32) (pw).less (pw).tmps (pw).st:=aD3
theorem aF9:fB Tryz.prog (Cj (some (fJ 4 32))):=Ee rfl (by kernel_rfl) (by
 intro τ hτ;rcases List.mem_cons.1 hτ with rfl|hτ
 ·exact aD2
 cases hτ)
def ap8:=fb cL (fn 187 (pr (fn 1 (pr bl (.int 29))) (fn 1 (pr U0 (.int 29)))))<|ah fun F p0=>by
 simp_all[aKM]
def ap9:=fb cL (cmp .eql (fn 9 (pr (fn 1 (pr U0 (.int 0))) (.int 12))) (fn 9 (pr (fn 1 (pr bl (.int 0))) (.int 12))))<|ah fun F p0=>by
 have hp0:=gS p0 0 (by rfl)
 have:=@rA F _ _ hp0 (.int 12)
 simp only[aa]at *;grind
def aqa:=fb cL (fn 187 (pr (fn 1 (pr bl (.int 30))) (fn 1 (pr U0 (.int 30)))))<|ah fun F p0=>by
 simp_all[aKN]
def aqb:=fb cL (fn 12 (pr (fn 1 (pr U0 (.int 31))) (fn 1 (pr bl (.int 31)))))<|ah fun F p0=>by
 have hp0:=gS p0 31 (by rfl);grind[lN]
def aqc:=fb d9 (.not (cmp .lss (.int 100) (fn 0 (fn 1 (pr U0 (.int 31))))))<|ah fun F p0=>by
 have:=ak p0
 simp only[aa]at *;grind
def aqd:=fb cL (cmp .eql (fn 1 (pr U0 (.int 37))) (fn 1 (pr bl (.int 37))))<|ah fun F p0=>by
 have hi37:=fw p0 37 (by decide) rfl rfl rfl;simp only[aa]at *;grind
def aqe:=fb cL (cmp .eql (fn 1 (pr U0 (.int 36))) (fn 1 (pr bl (.int 36))))<|ah fun F p0=>by
 have hi36:=fw p0 36 (by decide) rfl rfl rfl;simp only[aa]at *;grind
def aqf:=fb cL (cmp .eql (fn 1 (pr U0 (.int 35))) (fn 1 (pr bl (.int 35))))<|ah fun F p0=>by
 have hi35:=fw p0 35 (by decide) rfl rfl rfl;simp only[aa]at *;grind
def aqg:=fb cL (cmp .eql (fn 1 (pr U0 (.int 34))) (fn 1 (pr bl (.int 34))))<|ah fun F p0=>by
 have hi34:=fw p0 34 (by decide) rfl rfl rfl;simp only[aa]at *;grind
def aqh:=fb cL (cmp .eql (fn 1 (pr U0 (.int 33))) (fn 1 (pr bl (.int 33))))<|ah fun F p0=>by
 have hi33:=fw p0 33 (by decide) rfl rfl rfl;simp only[aa]at *;grind
def aqi:=fb cL (cmp .eql (fn 9 (pr (fn 1 (pr U0 (.int 32))) (.int 2))) (fn 9 (pr (fn 1 (pr bl (.int 32))) (.int 2))))<|ah fun F p0=>by
 have hp0:=gS p0 32 (by rfl)
 have:=@rA F _ _ hp0 (.int 2)
 simp only[aa]at *;grind
def rj:List Fa:=[ap8,ap9,lU,vA,aqa,rU,vB,aqb,aqc,aqd,aqe,aqf,aqg,aqh,aqi]
def Zb:List Ann:=(Ch (some (fJ 0 16)))::(Ci (some (fJ 2 24)))::(Cj (some (fJ 4 32)))::[]
theorem aDu:∀x∈Zb,fB Tryz.prog x:=by
 intro x hx;rcases List.mem_cons.1 hx with rfl|hx
 ·exact aF6
 rcases List.mem_cons.1 hx with rfl|hx
 ·exact aF7
 rcases List.mem_cons.1 hx with rfl|hx
 ·exact aF9
 exact lF [] (by kernel_rfl) x hx
theorem aJa:aR Tryz.prog (bj (aIz)):=
 afq good (facts:=fl rj) (na _) (anns:=Zb) aDu (nats:=iT.l) iT.h (n:=3000) (ms:=[]) (by kernel_rfl)
def acX:Nl:=nc (ab0 (mss:=[uc,uc]) aJa) iT
end
end Go.Proofs.YtnggbcblogpnfaaGreat.combatAttacks
