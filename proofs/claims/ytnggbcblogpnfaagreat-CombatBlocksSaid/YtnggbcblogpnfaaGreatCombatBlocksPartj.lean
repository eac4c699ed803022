/-
  CombatBlocks: contracts of functions, part 10.
-/
import Derived.Test.YtnggbcblogpnfaaGreatCombatBlocksParti
namespace Go.Proofs.YtnggbcblogpnfaaGreat.combatBlocks
open Go.ChangeShapes Go.WideShapes Go.ChangeAt Go.RowKit
open Go.SX
open Go.SX.E (fn pr cmp var)
set_option linter.unusedVariables false
set_option linter.unusedSimpArgs false
set_option maxRecDepth 100000
noncomputable section
abbrev U0:E:=var 0
abbrev U1:E:=fn 158 (pr U0 (fn 9 (pr U0 (.int 5))))
abbrev U2:E:=var 11
abbrev U3:E:=cmp .lss U2 (fn 9 (pr U0 (.int 5)))
abbrev U4:E:=cmp .lss U2 (.int 0)
abbrev U5:E:=.not U4
abbrev U6:E:=cmp .lss (.int 2147483648) (fn 9 (pr (fn 1 (pr U0 (fn 6 (pr (fn 8 (pr U2 (.int 5))) (.int 4))))) (.int 2)))
abbrev U7:E:=.not U6
abbrev U8:E:=.not (cmp .lss (fn 9 (pr U0 (.int 5))) U2)
abbrev U9:E:=cmp .eql U2 (.int 0)
abbrev VD:=[U9]
abbrev gq:E:=var 9
abbrev qk:E:=cmp .eql gq U2
abbrev wX:E:=.not (cmp .lss gq (.int 1))
abbrev cb:E:=var 8
abbrev I1:E:=fn 181 (pr cb (pr U0 (fn 8 (pr U2 (.int 5)))))
abbrev wY:E:=cmp .eql (fn 0 cb) (fn 8 (pr gq (.int 5)))
abbrev Bq:E:=var 12
abbrev U18:E:=pr (fn 28 (pr (pr Bq gq) cb)) U0
abbrev VK:E:=fn 187 U18
abbrev U20:E:=cmp .lss (.int 20) (fn 9 (pr U0 (.int 5)))
abbrev VL:E:=.not U20
abbrev VM:=VL::VD
abbrev U23:=U5::VM
abbrev Br:=U3::U23
abbrev U25:E:=cmp .lss (.ar .add .i64 U2 (.int 1)) (.int 0)
abbrev VN:E:=.not U25
abbrev wZ:E:=var 10
abbrev I2:E:=fn 190 U0
abbrev U29:E:=cmp .lss (fn 9 (pr U0 (.int 5))) (.ar .add .i64 U2 (.int 1))
abbrev VO:E:=.not U29
abbrev w4:=[VL]
abbrev U32:=wX::w4
abbrev VP:=qk::U32
abbrev VQ:=U3::VP
abbrev U35:=U8::w4
abbrev U36:=wX::U35
abbrev U37:=qk::U36
abbrev VR:=U3::U37
abbrev VS:E:=pr U0 (fn 8 (pr (.ar .add .i64 U2 (.int 1)) (.int 5)))
abbrev VT:E:=cmp .lss (fn 7 (pr (fn 9 (pr U0 (.int 5))) (.ar .add .i64 U2 (.int 1)))) (fn 7 (pr (fn 9 (pr U0 (.int 5))) U2))
abbrev U41:E:=cmp .lss (fn 7 (pr (fn 9 (pr U0 (.int 5))) (.ar .add .i64 U2 (.int 1)))) (.int 0)
abbrev VU:E:=.not U41
abbrev I3:E:=fn 117 U0
abbrev eE:=[I3]
abbrev I4:E:=fn 116 U0
abbrev bo:E:=var 16
abbrev eR:E:=var 24
abbrev bq:E:=var 1
abbrev I5:List E:=[(fn 12 (pr U0 bq))]
abbrev VV:E:=cmp .lss cb (fn 0 U0)
abbrev U51:E:=cmp .lss cb (.int 0)
abbrev I6:E:=.not U51
abbrev U53:E:=cmp .lss (.int 100) (fn 0 U0)
abbrev U54:E:=.not U53
abbrev U55:=[U54]
abbrev U56:=I6::U55
abbrev VW:=VV::U56
abbrev U58:E:=cmp .lss (.ar .add .i64 cb (.int 1)) (.int 0)
abbrev VX:E:=.not U58
abbrev jX:E:=var 4
abbrev I7:List E:=[(fn 12 (pr jX gq))]
abbrev I8:E:=cmp .lss bo (fn 9 (pr jX (.int 2)))
abbrev U63:E:=cmp .lss (fn 9 (pr jX (.int 2))) bo
abbrev VY:E:=.not U63
abbrev w5:E:=.bool true
abbrev U66:E:=cmp .lss bo (.int 0)
abbrev VZ:E:=.not U66
abbrev U68:E:=cmp .lss (.int 6) (fn 9 (pr jX (.int 2)))
abbrev U69:E:=.not U68
abbrev U70:=[U69]
abbrev Wa:=VZ::U70
abbrev Wb:=I8::Wa
abbrev U73:E:=cmp .lss (.ar .add .i64 bo (.int 1)) (.int 0)
abbrev Wc:E:=.not U73
abbrev U75:=VY::Wa
abbrev Wd:=I8::U75
abbrev I9:E:=fn 187 (pr bq U0)
abbrev Bt:E:=cmp .lss cb (fn 9 (pr U0 (.int 5)))
abbrev U79:E:=cmp .lss (fn 9 (pr U0 (.int 5))) cb
abbrev We:E:=.not U79
abbrev U81:=[I6]
abbrev Wf:=Bt::U81
abbrev w6:=I9::Wf
abbrev Wg:=I6::w4
abbrev Wh:=Bt::Wg
abbrev U86:=We::Wg
abbrev Wi:=Bt::U86
abbrev Ja:E:=fn 189 (pr bq U0)
abbrev Wj:E:=cmp .lss bo (fn 9 (pr (fn 1 (pr U0 (.int 0))) (.int 12)))
abbrev cV:=[Ja]
abbrev U91:=[VZ]
abbrev Jb:=Wj::U91
abbrev Wk:=I3::Jb
abbrev Wl:E:=cmp .lss eR (fn 9 (pr (fn 1 (pr U0 (.int 32))) (.int 2)))
abbrev U95:E:=cmp .lss eR (.int 0)
abbrev U96:E:=.not U95
abbrev U97:=[U96]
abbrev U98:=Wl::U97
abbrev Bu:=I3::U98
abbrev dO:E:=var 48
abbrev Bi:E:=cmp .lss dO (.int 4)
abbrev VE:E:=cmp .eql dO (.int 0)
abbrev wV:E:=cmp .eql dO (.int 1)
abbrev wW:E:=cmp .eql dO (.int 2)
abbrev aAk:E:=cmp .lss dO (.int 0)
abbrev aAl:E:=.not aAk
abbrev Bj:=[aAl]
abbrev Bl:E:=.not (cmp .lss (.ar .add .i64 dO (.int 1)) (.int 0))
abbrev aAm:=VE::Bj
abbrev IZ:=Bi::aAm
abbrev aAn:E:=cmp .lss (.int 4) dO
abbrev aAo:E:=.not aAn
abbrev aAp:=aAo::Bj
abbrev VF:=Bi::aAp
abbrev Bm:E:=.not (cmp .lss (.int 4) (.ar .add .i64 dO (.int 1)))
abbrev I0:E:=cmp .lss (fn 7 (pr (.int 4) (.ar .add .i64 dO (.int 1)))) (fn 7 (pr (.int 4) dO))
abbrev Bn:E:=.not (cmp .lss (fn 7 (pr (.int 4) (.ar .add .i64 dO (.int 1)))) (.int 0))
abbrev gQ:E:=var 32
abbrev aAq:E:=cmp .eql gQ (.int 0)
abbrev Bo:=[aAq]
abbrev aAr:E:=cmp .lss (.ar .add .i64 gQ (.int 1)) (.int 0)
abbrev VG:E:=.not aAr
abbrev aAs:E:=cmp .eql gQ (.int 1)
abbrev Bp:=[aAs]
abbrev aAt:E:=cmp .lss (.int 2) (.ar .add .i64 gQ (.int 1))
abbrev VH:E:=.not aAt
abbrev VI:E:=cmp .lss (fn 7 (pr (.int 2) (.ar .add .i64 gQ (.int 1)))) (fn 7 (pr (.int 2) gQ))
abbrev aAu:E:=cmp .lss (fn 7 (pr (.int 2) (.ar .add .i64 gQ (.int 1)))) (.int 0)
abbrev VJ:E:=.not aAu
def aqv:=fb [U1,U3,U5] U7<|aj fun F p0 p1 p2=>by
 have hr0:0<=E.I F _->E.I F _<E.I F _->E.I F (fn 9 (pr (fn 1 _) _))<=6:=fun h0 h1=>@NW F _ U2 _ p0 h0 h1
 simp only[aa]at *;grind
def aqw:=fb ((.not U3)::U8::VD) (fn 187 (pr (fn 30 (.int 0)) U0))<|aj fun F p0 p1 p2=>by
 have:=fun h0=>@aMM F (fn 30 (.int 0)) U0 rfl h0
 simp only[aa]at *;grind
def aqx:=fb [U1,U3,qk,wX] U7<|aw fun F p0 p1 p2 p3=>by
 have hr0:0<=E.I F _->E.I F _<E.I F _->E.I F (fn 9 (pr (fn 1 _) _))<=6:=fun h0 h1=>@NW F _ U2 _ p0 h0 h1
 simp only[aa]at *;grind
def aqy:=fb [(.not U3),I1,wY,qk,U8] VK<|aJ fun F p0 p1 p2 p3 p4=>by
 have:=fun h1 h2=>@agZ F _ _ _ (pr Bq gq) p1 h1 h2
 simp only[aa]at *;grind
def aqz:=fb Br VN<|aw fun F p0 p1 p2 p3=>by
 simp only[aa,ae]at *
 obtain⟨a,b,c⟩:=ab (E.I F U2+1)
 omega
def aqA:=fa ((fn 195 (fn 30 (.int 0))))<|fun F=>by
 rfl
def aqB:=fb [(.not (cmp .lss wZ gq)),wX] (.not (cmp .lss wZ (.int 0)))<|am fun F p0 p1=>by
 simp only[aa]at *;grind
def aqC:=fb [(.not U3),I1,wY,qk,U8,I2] (fn 195 (fn 28 (pr (pr Bq gq) cb)))<|bL fun F p0 p1 p2 p3 p4 p5=>by
 have h187:E.B F VK=true:=by
  have:=fun h1 h2=>@agZ F _ _ _ (pr Bq gq) p1 h1 h2
  simp only[aa]at *;grind
 grind[aMR]
def aqD:=fb Br VO<|aw fun F p0 p1 p2 p3=>by
 simp only[aa,ae]at *
 obtain⟨a,b,c⟩:=ab (E.I F U2+1)
 omega
def aqE:=fb (U3::qk::w4) (.not (cmp .lss (.int 2147483648) (fn 6 (pr gq (.int 1)))))<|aj fun F p0 p1 p2=>by
 simp only[aa]at *;grind
def aqF:=fb VQ VN<|aw fun F p0 p1 p2 p3=>by
 simp only[aa,ae]at *
 obtain⟨a,b,c⟩:=ab (E.I F U2+1)
 omega
def aqG:=fa ((cmp .eql (fn 8 (pr (.int 1) (.int 5))) (.int 5)))<|fun F=>by
 rfl
def aqH:=fb VR VO<|aJ fun F p0 p1 p2 p3 p4=>by
 simp only[aa,ae]at *
 obtain⟨a,b,c⟩:=ab (E.I F U2+1)
 omega
def aqI:=fb (U3::U5::I2::VM) (fn 181 (pr (fn 23 (pr (fn 1 (pr U0 (fn 6 (pr (fn 8 (pr U2 (.int 5))) (.int 0))))) (fn 23 (pr (fn 1 (pr U0 (fn 6 (pr (fn 8 (pr U2 (.int 5))) (.int 1))))) (fn 23 (pr (fn 1 (pr U0 (fn 6 (pr (fn 8 (pr U2 (.int 5))) (.int 2))))) (fn 23 (pr (fn 1 (pr U0 (fn 6 (pr (fn 8 (pr U2 (.int 5))) (.int 3))))) (fn 23 (pr (fn 28 (pr (pr (var 13) (fn 9 (pr (fn 1 (pr U0 (fn 6 (pr (fn 8 (pr U2 (.int 5))) (.int 4))))) (.int 2)))) (fn 1 (pr U0 (fn 6 (pr (fn 8 (pr U2 (.int 5))) (.int 4))))))) (fn 10 (.int 0)))))))))))) VS))<|aJ fun F p0 p1 p2 p3 p4=>by
 have:=@bJ F U2 (.int 1)
 have hr2:E.I F _=0->E.I F _<E.I F _->E.I F _=(E.I F _+1)*5->E.B F (fn _ (pr (fn 23 (pr (fn 1 _) (fn 23 (pr (fn 1 _) (fn 23 (pr (fn 1 _) (fn 23 (pr (fn 1 _) (fn 23 (pr (fn 28 (pr _ (fn 1 _))) _)))))))))) _))=true:=fun h0 h3 h4=>@aMK F _ U2 (fn 8 (pr (.ar .add .i64 U2 (.int 1)) (.int 5))) p2 h0 h3 h4 (var 13) (fn 9 (pr (fn 1 (pr U0 (fn 6 (pr (fn 8 (pr U2 (.int 5))) (.int 4))))) (.int 2)))
 simp only[aa]at *;grind
def aqJ:=fb (U3::wY::VP) (cmp .eql (fn 6 (pr gq (.int 1))) (.ar .add .i64 U2 (.int 1)))<|aJ fun F p0 p1 p2 p3 p4=>by
 simp only[aa,ae]at *
 obtain⟨a,b,c⟩:=ab (E.I F U2+1)
 omega
def aqK:=fb Br VT<|aw fun F p0 p1 p2 p3=>by
 simp only[aa,ae]at *
 obtain⟨a,b,c⟩:=ab (E.I F U2+1)
 omega
def aqL:=fb [wY] (cmp .eql (fn 6 (pr (fn 0 cb) (.int 5))) (fn 8 (pr (fn 6 (pr gq (.int 1))) (.int 5))))<|ah fun F p0=>by
 simp only[aa]at *;grind
def aqM:=fb Br VU<|aw fun F p0 p1 p2 p3=>by
 simp only[aa,ae]at *
 obtain⟨a,b,c⟩:=ab (E.I F U2+1)
 omega
def aqN:=fb (U3::I1::wY::qk::wX::I2::w4) (fn 181 (pr (fn 3 (pr cb (fn 23 (pr (fn 1 (pr U0 (fn 6 (pr (fn 8 (pr U2 (.int 5))) (.int 0))))) (fn 23 (pr (fn 1 (pr U0 (fn 6 (pr (fn 8 (pr U2 (.int 5))) (.int 1))))) (fn 23 (pr (fn 1 (pr U0 (fn 6 (pr (fn 8 (pr U2 (.int 5))) (.int 2))))) (fn 23 (pr (fn 1 (pr U0 (fn 6 (pr (fn 8 (pr U2 (.int 5))) (.int 3))))) (fn 23 (pr (fn 28 (pr (pr (var 13) (fn 9 (pr (fn 1 (pr U0 (fn 6 (pr (fn 8 (pr U2 (.int 5))) (.int 4))))) (.int 2)))) (fn 1 (pr U0 (fn 6 (pr (fn 8 (pr U2 (.int 5))) (.int 4))))))) (fn 10 (.int 0)))))))))))))) VS))<|cH fun F p0 p1 p2 p3 p4 p5 p6=>by
 have:=@bJ F U2 (.int 1)
 have hr2:0<=E.I F _->E.I F _=E.I F _*5->E.I F _=E.I F _*5->E.I F _<E.I F _->E.I F _=(E.I F _+1)*5->E.B F (fn _ (pr (fn 3 (pr _ (fn 23 (pr (fn 1 _) (fn 23 (pr (fn 1 _) (fn 23 (pr (fn 1 _) (fn 23 (pr (fn 1 _) (fn 23 (pr (fn 28 (pr _ (fn 1 _))) _)))))))))))) _))=true:=fun h0 h1 h2 h3 h4=>@aML F _ _ U2 (fn 8 (pr (.ar .add .i64 U2 (.int 1)) (.int 5))) _ p1 p5 h0 h1 h2 h3 h4 (var 13) (fn 9 (pr (fn 1 (pr U0 (fn 6 (pr (fn 8 (pr U2 (.int 5))) (.int 4))))) (.int 2)))
 simp only[aa]at *;grind
def aqO:=fb VQ VT<|aw fun F p0 p1 p2 p3=>by
 simp only[aa,ae]at *
 obtain⟨a,b,c⟩:=ab (E.I F U2+1)
 omega
def aqP:=fb VR VU<|aJ fun F p0 p1 p2 p3 p4=>by
 simp only[aa,ae]at *
 obtain⟨a,b,c⟩:=ab (E.I F U2+1)
 omega
def jb:List Fa:=[df,aqv,aqw,aqx,aqy,aqz,aqA,aqB,aqC,aqD,aqE,Hx,aqF,aqG,aqH,aqI,aqJ,aqK,aqL,aqM,aqN,aqO,aqP]
theorem aK1:aL Tryz.prog (bh (aJ3)):=sc jb (aEZ) adV (aIx) (by kernel_rfl) (by kernel_rfl)
def ER:Nl:=nc aK1 adV
def Hy:=fb eE (.not (cmp .lss (.int 2147483648) (fn 9 (pr (fn 1 (pr U0 (.int 0))) (.int 12)))))<|ah fun F p0=>by
 have:=ai p0
 simp only[aa]at *;omega
def Hz:=fb eE (.not (cmp .lss (.int 2147483648) (fn 0 (fn 1 (pr U0 (.int 6))))))<|ah fun F p0=>by
 have:=ai p0
 simp only[aa]at *;omega
def HA:=fb eE (.not (cmp .lss (.int 2147483648) (fn 0 (fn 1 (pr U0 (.int 7))))))<|ah fun F p0=>by
 have:=ai p0
 simp only[aa]at *;omega
def HB:=fb eE (.not (cmp .lss (.int 2147483648) (fn 0 (fn 1 (pr U0 (.int 8))))))<|ah fun F p0=>by
 have:=ai p0
 simp only[aa]at *;omega
def HC:=fb eE (.not (cmp .lss (.int 2147483648) (fn 0 (fn 1 (pr U0 (.int 9))))))<|ah fun F p0=>by
 have:=ai p0
 simp only[aa]at *;omega
def HD:=fb eE (.not (cmp .lss (.int 2147483648) (fn 0 (fn 1 (pr U0 (.int 20))))))<|ah fun F p0=>by
 have:=ai p0
 simp only[aa]at *;omega
def HE:=fb eE (.not (cmp .lss (.int 2147483648) (fn 0 (fn 1 (pr U0 (.int 21))))))<|ah fun F p0=>by
 have:=ai p0
 simp only[aa]at *;omega
def HF:=fb eE (.not (cmp .lss (.int 2147483648) (fn 0 (fn 1 (pr U0 (.int 22))))))<|ah fun F p0=>by
 have:=ai p0
 simp only[aa]at *;omega
def HG:=fb eE (.not (cmp .lss (.int 2147483648) (fn 0 (fn 1 (pr U0 (.int 23))))))<|ah fun F p0=>by
 have:=ai p0
 simp only[aa]at *;omega
def vP:=fb eE (fn 158 (pr (fn 1 (pr U0 (.int 29))) (fn 9 (pr (fn 1 (pr U0 (.int 29))) (.int 5)))))<|ah fun F p0=>by
 simp_all[gi]
def Af:=fb [I4] (fn 190 (fn 1 (pr U0 (.int 29))))<|ah fun F p0=>by
 have:=ag3 p0 29 (by decide)
 omega
def vQ:=fb eE (fn 158 (pr (fn 1 (pr U0 (.int 30))) (fn 9 (pr (fn 1 (pr U0 (.int 30))) (.int 5)))))<|ah fun F p0=>by
 simp_all[gi]
def Ag:=fb [I4] (fn 190 (fn 1 (pr U0 (.int 30))))<|ah fun F p0=>by
 have:=ag3 p0 30 (by decide)
 omega
def HH:=fb eE (.not (cmp .lss (.int 2147483648) (fn 0 (fn 1 (pr U0 (.int 31))))))<|ah fun F p0=>by
 have:=ai p0
 simp only[aa]at *;omega
def HI:=fb eE (.not (cmp .lss (.int 2147483648) (fn 9 (pr (fn 1 (pr U0 (.int 32))) (.int 2)))))<|ah fun F p0=>by
 have:=ai p0
 simp only[aa]at *;omega
def QH:=fb [I4,(fn 187 (pr wZ (fn 1 (pr U0 (.int 29))))),(fn 187 (pr U2 (fn 1 (pr U0 (.int 30)))))] (fn 189 (pr (cL [(fn 28 (pr (pr (var 14) (fn 9 (pr (fn 1 (pr U0 (.int 0))) (.int 12)))) (fn 1 (pr U0 (.int 0))))),(fn 1 (pr U0 (.int 1))),(fn 1 (pr U0 (.int 2))),(fn 1 (pr U0 (.int 3))),(fn 1 (pr U0 (.int 4))),(fn 1 (pr U0 (.int 5))),(fn 28 (pr (pr (var 15) (fn 0 (fn 1 (pr U0 (.int 6))))) (fn 1 (pr U0 (.int 6))))),(fn 28 (pr (pr bo (fn 0 (fn 1 (pr U0 (.int 7))))) (fn 1 (pr U0 (.int 7))))),(fn 28 (pr (pr (var 17) (fn 0 (fn 1 (pr U0 (.int 8))))) (fn 1 (pr U0 (.int 8))))),(fn 28 (pr (pr (var 18) (fn 0 (fn 1 (pr U0 (.int 9))))) (fn 1 (pr U0 (.int 9))))),(fn 1 (pr U0 (.int 10))),(fn 1 (pr U0 (.int 11))),(fn 1 (pr U0 (.int 12))),(fn 1 (pr U0 (.int 13))),(fn 1 (pr U0 (.int 14))),(fn 1 (pr U0 (.int 15))),(fn 1 (pr U0 (.int 16))),(fn 1 (pr U0 (.int 17))),(fn 1 (pr U0 (.int 18))),(fn 1 (pr U0 (.int 19))),(fn 28 (pr (pr (var 19) (fn 0 (fn 1 (pr U0 (.int 20))))) (fn 1 (pr U0 (.int 20))))),(fn 28 (pr (pr (var 20) (fn 0 (fn 1 (pr U0 (.int 21))))) (fn 1 (pr U0 (.int 21))))),(fn 28 (pr (pr (var 21) (fn 0 (fn 1 (pr U0 (.int 22))))) (fn 1 (pr U0 (.int 22))))),(fn 28 (pr (pr (var 22) (fn 0 (fn 1 (pr U0 (.int 23))))) (fn 1 (pr U0 (.int 23))))),(fn 1 (pr U0 (.int 24))),(fn 1 (pr U0 (.int 25))),(fn 1 (pr U0 (.int 26))),(fn 1 (pr U0 (.int 27))),(fn 1 (pr U0 (.int 28))),wZ,U2,(fn 28 (pr (pr (var 23) (fn 0 (fn 1 (pr U0 (.int 31))))) (fn 1 (pr U0 (.int 31))))),(fn 28 (pr (pr eR (fn 9 (pr (fn 1 (pr U0 (.int 32))) (.int 2)))) (fn 1 (pr U0 (.int 32))))),(fn 1 (pr U0 (.int 33))),(fn 1 (pr U0 (.int 34))),(fn 1 (pr U0 (.int 35))),(fn 1 (pr U0 (.int 36))),(fn 1 (pr U0 (.int 37)))]) U0))<|aj fun F p0 p1 p2=>by
 have h1:=@aMP F U0 [(fn 28 (pr (pr (var 14) (fn 9 (pr (fn 1 (pr U0 (.int 0))) (.int 12)))) (fn 1 (pr U0 (.int 0))))),(fn 1 (pr U0 (.int 1))),(fn 1 (pr U0 (.int 2))),(fn 1 (pr U0 (.int 3))),(fn 1 (pr U0 (.int 4))),(fn 1 (pr U0 (.int 5))),(fn 28 (pr (pr (var 15) (fn 0 (fn 1 (pr U0 (.int 6))))) (fn 1 (pr U0 (.int 6))))),(fn 28 (pr (pr bo (fn 0 (fn 1 (pr U0 (.int 7))))) (fn 1 (pr U0 (.int 7))))),(fn 28 (pr (pr (var 17) (fn 0 (fn 1 (pr U0 (.int 8))))) (fn 1 (pr U0 (.int 8))))),(fn 28 (pr (pr (var 18) (fn 0 (fn 1 (pr U0 (.int 9))))) (fn 1 (pr U0 (.int 9))))),(fn 1 (pr U0 (.int 10))),(fn 1 (pr U0 (.int 11))),(fn 1 (pr U0 (.int 12))),(fn 1 (pr U0 (.int 13))),(fn 1 (pr U0 (.int 14))),(fn 1 (pr U0 (.int 15))),(fn 1 (pr U0 (.int 16))),(fn 1 (pr U0 (.int 17))),(fn 1 (pr U0 (.int 18))),(fn 1 (pr U0 (.int 19))),(fn 28 (pr (pr (var 19) (fn 0 (fn 1 (pr U0 (.int 20))))) (fn 1 (pr U0 (.int 20))))),(fn 28 (pr (pr (var 20) (fn 0 (fn 1 (pr U0 (.int 21))))) (fn 1 (pr U0 (.int 21))))),(fn 28 (pr (pr (var 21) (fn 0 (fn 1 (pr U0 (.int 22))))) (fn 1 (pr U0 (.int 22))))),(fn 28 (pr (pr (var 22) (fn 0 (fn 1 (pr U0 (.int 23))))) (fn 1 (pr U0 (.int 23))))),(fn 1 (pr U0 (.int 24))),(fn 1 (pr U0 (.int 25))),(fn 1 (pr U0 (.int 26))),(fn 1 (pr U0 (.int 27))),(fn 1 (pr U0 (.int 28))),wZ,U2,(fn 28 (pr (pr (var 23) (fn 0 (fn 1 (pr U0 (.int 31))))) (fn 1 (pr U0 (.int 31))))),(fn 28 (pr (pr eR (fn 9 (pr (fn 1 (pr U0 (.int 32))) (.int 2)))) (fn 1 (pr U0 (.int 32))))),(fn 1 (pr U0 (.int 33))),(fn 1 (pr U0 (.int 34))),(fn 1 (pr U0 (.int 35))),(fn 1 (pr U0 (.int 36))),(fn 1 (pr U0 (.int 37)))] rfl;exact h1 (ku p0 0 rfl (by decide) rfl (dZ 1 rfl (dZ 2 rfl (dZ 3 rfl (dZ 4 rfl (dZ 5 rfl (ku p0 6 rfl (by decide) rfl (ku p0 7 rfl (by decide) rfl (ku p0 8 rfl (by decide) rfl (ku p0 9 rfl (by decide) rfl (dZ 10 rfl (dZ 11 rfl (dZ 12 rfl (dZ 13 rfl (dZ 14 rfl (dZ 15 rfl (dZ 16 rfl (dZ 17 rfl (dZ 18 rfl (dZ 19 rfl (ku p0 20 rfl (by decide) rfl (ku p0 21 rfl (by decide) rfl (ku p0 22 rfl (by decide) rfl (ku p0 23 rfl (by decide) rfl (dZ 24 rfl (dZ 25 rfl (dZ 26 rfl (dZ 27 rfl (dZ 28 rfl (abf 29 rfl p1 (abf 30 rfl p2 (ku p0 31 rfl (by decide) rfl (ku p0 32 rfl (by decide) rfl (dZ 33 rfl (dZ 34 rfl (dZ 35 rfl (dZ 36 rfl (dZ 37 rfl trivial))))))))))))))))))))))))))))))))))))))
def iE:List Fa:=[df,Hy,Hz,HA,HB,HC,HD,HE,HF,HG,mw,vP,Af,sy,vQ,Ag,HH,HI,QH]
theorem aK2:aL Tryz.prog (bh (ags)):=sc iE ([]) ER (yW) (by kernel_rfl) (by kernel_rfl)
def adW:Nl:=nc aK2 ER
def aqQ:=fb I5 (cmp .eql (fn 0 U0) (fn 0 bq))<|ah fun F p0=>by
 have:=@agQ F _ _ p0
 simp only[aa]at *;grind
def aqR:=fb (VV::(.not (cmp .lss (fn 0 U0) cb))::I5) (cmp .lss cb (fn 0 bq))<|aj fun F p0 p1 p2=>by
 have:=@agQ F _ _ p2
 simp_all
def aqS:=fb I5 (cmp .eql (fn 1 (pr U0 cb)) (fn 1 (pr bq cb)))<|ah fun F p0=>by
 have:=@iI F _ _ p0 cb
 simp only[aa]at *;grind
def aqT:=fb VW VX<|aj fun F p0 p1 p2=>by
 simp only[aa,ae]at *
 obtain⟨a,b,c⟩:=ab (E.I F cb+1)
 omega
def aqU:=fb VW (cmp .lss (fn 7 (pr (fn 0 U0) (.ar .add .i64 cb (.int 1)))) (fn 7 (pr (fn 0 U0) cb)))<|aj fun F p0 p1 p2=>by
 simp only[aa,ae]at *
 obtain⟨a,b,c⟩:=ab (E.I F cb+1)
 omega
def lV:List Fa:=[aqQ,aqR,aqS,aqT,PT,aqU,PU]
theorem aK3:aL Tryz.prog (bh (aKi)):=sc lV (aE9) adW ([]) (by kernel_rfl) (by kernel_rfl)
def adX:Nl:=nc aK3 adW
def aqV:=fb I7 (cmp .eql (fn 9 (pr jX (.int 2))) (fn 9 (pr gq (.int 2))))<|ah fun F p0=>by
 have:=@r6 F _ _ p0 (.int 2)
 simp only[aa]at *;grind
def aqW:=fb (I8::VY::I7) (cmp .lss bo (fn 9 (pr gq (.int 2))))<|aj fun F p0 p1 p2=>by
 have:=@r6 F _ _ p2 (.int 2)
 simp_all
def aqX:=fb I7 (.and (cmp .eql (fn 1 (pr jX (fn 6 (pr (fn 8 (pr bo (.int 2))) (.int 0))))) (fn 1 (pr gq (fn 6 (pr (fn 8 (pr bo (.int 2))) (.int 0)))))) (.and (cmp .eql (fn 1 (pr jX (fn 6 (pr (fn 8 (pr bo (.int 2))) (.int 1))))) (fn 1 (pr gq (fn 6 (pr (fn 8 (pr bo (.int 2))) (.int 1)))))) w5))<|ah fun F p0=>by
 have:=@iI F _ _ p0 (fn 6 (pr (fn 8 (pr bo (.int 2))) (.int 0)))
 have:=@iI F _ _ p0 (fn 6 (pr (fn 8 (pr bo (.int 2))) (.int 1)))
 simp only[aa]at *;grind
def aqY:=fb Wb Wc<|aj fun F p0 p1 p2=>by
 simp only[aa,ae]at *
 obtain⟨a,b,c⟩:=ab (E.I F bo+1)
 omega
def aqZ:=fb Wd (.not (cmp .lss (fn 9 (pr jX (.int 2))) (.ar .add .i64 bo (.int 1))))<|aw fun F p0 p1 p2 p3=>by
 simp only[aa,ae]at *
 obtain⟨a,b,c⟩:=ab (E.I F bo+1)
 omega
def aq0:=fb Wb (cmp .lss (fn 7 (pr (fn 9 (pr jX (.int 2))) (.ar .add .i64 bo (.int 1)))) (fn 7 (pr (fn 9 (pr jX (.int 2))) bo)))<|aj fun F p0 p1 p2=>by
 simp only[aa,ae]at *
 obtain⟨a,b,c⟩:=ab (E.I F bo+1)
 omega
def aq1:=fb Wd (.not (cmp .lss (fn 7 (pr (fn 9 (pr jX (.int 2))) (.ar .add .i64 bo (.int 1)))) (.int 0)))<|aw fun F p0 p1 p2 p3=>by
 simp only[aa,ae]at *
 obtain⟨a,b,c⟩:=ab (E.I F bo+1)
 omega
def lW:List Fa:=[aqV,aqW,aqX,aqY,aqZ,aq0,aq1]
theorem aK4:aL Tryz.prog (bh (aKt)):=sc lW (aFk) adX ([]) (by kernel_rfl) (by kernel_rfl)
def adY:Nl:=nc aK4 adX
def aq2:=fb [I9] (cmp .eql (fn 9 (pr U0 (.int 5))) (fn 9 (pr bq (.int 5))))<|ah fun F p0=>by
 have:=@ag0 F _ _ p0
 simp only[aa]at *;grind
def aq3:=fb [I9,Bt,We] (cmp .lss cb (fn 9 (pr bq (.int 5))))<|aj fun F p0 p1 p2=>by
 have:=@ag0 F _ _ p0
 simp_all
def aq4:=fb w6 (cmp .eql (fn 1 (pr U0 (fn 6 (pr (fn 8 (pr cb (.int 5))) (.int 0))))) (fn 1 (pr bq (fn 6 (pr (fn 8 (pr cb (.int 5))) (.int 0))))))<|aj fun F p0 p1 p2=>by
 have hr1:0<=E.I F _->E.I F _<E.I F _->E.I F (fn 1 _)=E.I F (fn 1 _):=fun h0 h1=>@Gq F _ _ cb p0 h0 h1 0 (by decide)
 simp only[aa]at *;grind
def aq5:=fb w6 (cmp .eql (fn 1 (pr U0 (fn 6 (pr (fn 8 (pr cb (.int 5))) (.int 1))))) (fn 1 (pr bq (fn 6 (pr (fn 8 (pr cb (.int 5))) (.int 1))))))<|aj fun F p0 p1 p2=>by
 have hr1:0<=E.I F _->E.I F _<E.I F _->E.I F (fn 1 _)=E.I F (fn 1 _):=fun h0 h1=>@Gq F _ _ cb p0 h0 h1 1 (by decide)
 simp only[aa]at *;grind
def aq6:=fb w6 (cmp .eql (fn 1 (pr U0 (fn 6 (pr (fn 8 (pr cb (.int 5))) (.int 2))))) (fn 1 (pr bq (fn 6 (pr (fn 8 (pr cb (.int 5))) (.int 2))))))<|aj fun F p0 p1 p2=>by
 have hr1:0<=E.I F _->E.I F _<E.I F _->E.I F (fn 1 _)=E.I F (fn 1 _):=fun h0 h1=>@Gq F _ _ cb p0 h0 h1 2 (by decide)
 simp only[aa]at *;grind
def aq7:=fb w6 (cmp .eql (fn 1 (pr U0 (fn 6 (pr (fn 8 (pr cb (.int 5))) (.int 3))))) (fn 1 (pr bq (fn 6 (pr (fn 8 (pr cb (.int 5))) (.int 3))))))<|aj fun F p0 p1 p2=>by
 have hr1:0<=E.I F _->E.I F _<E.I F _->E.I F (fn 1 _)=E.I F (fn 1 _):=fun h0 h1=>@Gq F _ _ cb p0 h0 h1 3 (by decide)
 simp only[aa]at *;grind
def aq8:=fb w6 (fn 12 (pr (fn 1 (pr U0 (fn 6 (pr (fn 8 (pr cb (.int 5))) (.int 4))))) (fn 1 (pr bq (fn 6 (pr (fn 8 (pr cb (.int 5))) (.int 4)))))))<|aj fun F p0 p1 p2=>by
 have hr2:0<=E.I F _->E.I F _<E.I F _->E.B F (fn 12 (pr (fn 1 _) (fn 1 _)))=true:=fun h0 h1=>mj (@NX F _ _ cb p0 h0 h1 4 (by decide))
 simp only[aa]at *;grind
def aq9:=fb (U1::Wf) (.not (cmp .lss (.int 6) (fn 9 (pr (fn 1 (pr U0 (fn 6 (pr (fn 8 (pr cb (.int 5))) (.int 4))))) (.int 2)))))<|aj fun F p0 p1 p2=>by
 have hr2:0<=E.I F _->E.I F _<E.I F _->E.I F (fn 9 (pr (fn 1 _) _))<=6:=fun h0 h1=>@NW F _ cb _ p0 h0 h1
 simp only[aa]at *;grind
def ara:=fb Wh VX<|aj fun F p0 p1 p2=>by
 simp only[aa,ae]at *
 obtain⟨a,b,c⟩:=ab (E.I F cb+1)
 omega
def arb:=fb Wi (.not (cmp .lss (fn 9 (pr U0 (.int 5))) (.ar .add .i64 cb (.int 1))))<|aw fun F p0 p1 p2 p3=>by
 simp only[aa,ae]at *
 obtain⟨a,b,c⟩:=ab (E.I F cb+1)
 omega
def arc:=fb Wh (cmp .lss (fn 7 (pr (fn 9 (pr U0 (.int 5))) (.ar .add .i64 cb (.int 1)))) (fn 7 (pr (fn 9 (pr U0 (.int 5))) cb)))<|aj fun F p0 p1 p2=>by
 simp only[aa,ae]at *
 obtain⟨a,b,c⟩:=ab (E.I F cb+1)
 omega
def ard:=fb Wi (.not (cmp .lss (fn 7 (pr (fn 9 (pr U0 (.int 5))) (.ar .add .i64 cb (.int 1)))) (.int 0)))<|aw fun F p0 p1 p2 p3=>by
 simp only[aa,ae]at *
 obtain⟨a,b,c⟩:=ab (E.I F cb+1)
 omega
def rM:List Fa:=[aq2,aq3,aq4,aq5,aq6,aq7,aq8,aq9,ara,arb,arc,ard]
theorem aK5:aL Tryz.prog (bh (aKg)):=sc rM (aE7) adY ([]) (by kernel_rfl) (by kernel_rfl)
def i9:Nl:=nc aK5 adY
def arf:=fb [Ja,Wj,(.not (cmp .lss (fn 9 (pr (fn 1 (pr U0 (.int 0))) (.int 12))) bo))] (cmp .lss bo (fn 9 (pr (fn 1 (pr bq (.int 0))) (.int 12))))<|aj fun F p0 p1 p2=>by
 have hp0:=ie p0 0 (by rfl)
 have:=@r6 F _ _ hp0 (.int 12)
 simp_all
def arg:=fb cV (.and (cmp .eql (fn 1 (pr (fn 1 (pr U0 (.int 0))) (fn 6 (pr (fn 8 (pr bo (.int 12))) (.int 0))))) (fn 1 (pr (fn 1 (pr bq (.int 0))) (fn 6 (pr (fn 8 (pr bo (.int 12))) (.int 0)))))) (.and (cmp .eql (fn 1 (pr (fn 1 (pr U0 (.int 0))) (fn 6 (pr (fn 8 (pr bo (.int 12))) (.int 1))))) (fn 1 (pr (fn 1 (pr bq (.int 0))) (fn 6 (pr (fn 8 (pr bo (.int 12))) (.int 1)))))) (.and (cmp .eql (fn 1 (pr (fn 1 (pr U0 (.int 0))) (fn 6 (pr (fn 8 (pr bo (.int 12))) (.int 2))))) (fn 1 (pr (fn 1 (pr bq (.int 0))) (fn 6 (pr (fn 8 (pr bo (.int 12))) (.int 2)))))) (.and (cmp .eql (fn 1 (pr (fn 1 (pr U0 (.int 0))) (fn 6 (pr (fn 8 (pr bo (.int 12))) (.int 3))))) (fn 1 (pr (fn 1 (pr bq (.int 0))) (fn 6 (pr (fn 8 (pr bo (.int 12))) (.int 3)))))) (.and (cmp .eql (fn 1 (pr (fn 1 (pr U0 (.int 0))) (fn 6 (pr (fn 8 (pr bo (.int 12))) (.int 4))))) (fn 1 (pr (fn 1 (pr bq (.int 0))) (fn 6 (pr (fn 8 (pr bo (.int 12))) (.int 4)))))) (.and (cmp .eql (fn 1 (pr (fn 1 (pr U0 (.int 0))) (fn 6 (pr (fn 8 (pr bo (.int 12))) (.int 5))))) (fn 1 (pr (fn 1 (pr bq (.int 0))) (fn 6 (pr (fn 8 (pr bo (.int 12))) (.int 5)))))) (.and (cmp .eql (fn 1 (pr (fn 1 (pr U0 (.int 0))) (fn 6 (pr (fn 8 (pr bo (.int 12))) (.int 6))))) (fn 1 (pr (fn 1 (pr bq (.int 0))) (fn 6 (pr (fn 8 (pr bo (.int 12))) (.int 6)))))) (.and (cmp .eql (fn 1 (pr (fn 1 (pr U0 (.int 0))) (fn 6 (pr (fn 8 (pr bo (.int 12))) (.int 7))))) (fn 1 (pr (fn 1 (pr bq (.int 0))) (fn 6 (pr (fn 8 (pr bo (.int 12))) (.int 7)))))) (.and (cmp .eql (fn 1 (pr (fn 1 (pr U0 (.int 0))) (fn 6 (pr (fn 8 (pr bo (.int 12))) (.int 8))))) (fn 1 (pr (fn 1 (pr bq (.int 0))) (fn 6 (pr (fn 8 (pr bo (.int 12))) (.int 8)))))) (.and (.iff (fn 1 (pr (fn 1 (pr U0 (.int 0))) (fn 6 (pr (fn 8 (pr bo (.int 12))) (.int 9))))) (fn 1 (pr (fn 1 (pr bq (.int 0))) (fn 6 (pr (fn 8 (pr bo (.int 12))) (.int 9)))))) (.and (.iff (fn 1 (pr (fn 1 (pr U0 (.int 0))) (fn 6 (pr (fn 8 (pr bo (.int 12))) (.int 10))))) (fn 1 (pr (fn 1 (pr bq (.int 0))) (fn 6 (pr (fn 8 (pr bo (.int 12))) (.int 10)))))) (.and (.iff (fn 1 (pr (fn 1 (pr U0 (.int 0))) (fn 6 (pr (fn 8 (pr bo (.int 12))) (.int 11))))) (fn 1 (pr (fn 1 (pr bq (.int 0))) (fn 6 (pr (fn 8 (pr bo (.int 12))) (.int 11)))))) w5))))))))))))<|ah fun F p0=>by
 have hp0:=ie p0 0 (by rfl)
 have:=@iI F _ _ hp0 (fn 6 (pr (fn 8 (pr bo (.int 12))) (.int 0)))
 have:=@iI F _ _ hp0 (fn 6 (pr (fn 8 (pr bo (.int 12))) (.int 1)))
 have:=@iI F _ _ hp0 (fn 6 (pr (fn 8 (pr bo (.int 12))) (.int 2)))
 have:=@iI F _ _ hp0 (fn 6 (pr (fn 8 (pr bo (.int 12))) (.int 3)))
 have:=@iI F _ _ hp0 (fn 6 (pr (fn 8 (pr bo (.int 12))) (.int 4)))
 have:=@iI F _ _ hp0 (fn 6 (pr (fn 8 (pr bo (.int 12))) (.int 5)))
 have:=@iI F _ _ hp0 (fn 6 (pr (fn 8 (pr bo (.int 12))) (.int 6)))
 have:=@iI F _ _ hp0 (fn 6 (pr (fn 8 (pr bo (.int 12))) (.int 7)))
 have:=@iI F _ _ hp0 (fn 6 (pr (fn 8 (pr bo (.int 12))) (.int 8)))
 have:=@NU F _ _ hp0 (fn 6 (pr (fn 8 (pr bo (.int 12))) (.int 9)))
 have:=@NU F _ _ hp0 (fn 6 (pr (fn 8 (pr bo (.int 12))) (.int 10)))
 have:=@NU F _ _ hp0 (fn 6 (pr (fn 8 (pr bo (.int 12))) (.int 11)))
 simp only[aa]at *;grind
def arh:=fb Wk Wc<|aj fun F p0 p1 p2=>by
 have:=ai p0
 simp only[aa,ae]at *
 obtain⟨a,b,c⟩:=ab (E.I F bo+1)
 omega
def ari:=fb Jb (.not (cmp .lss (fn 9 (pr (fn 1 (pr U0 (.int 0))) (.int 12))) (.ar .add .i64 bo (.int 1))))<|am fun F p0 p1=>by
 simp only[aa,ae]at *
 obtain⟨a,b,c⟩:=ab (E.I F bo+1)
 omega
def arj:=fb Wk (cmp .lss (fn 7 (pr (fn 9 (pr (fn 1 (pr U0 (.int 0))) (.int 12))) (.ar .add .i64 bo (.int 1)))) (fn 7 (pr (fn 9 (pr (fn 1 (pr U0 (.int 0))) (.int 12))) bo)))<|aj fun F p0 p1 p2=>by
 have:=ai p0
 simp only[aa,ae]at *
 obtain⟨a,b,c⟩:=ab (E.I F bo+1)
 omega
def ark:=fb Jb (.not (cmp .lss (fn 7 (pr (fn 9 (pr (fn 1 (pr U0 (.int 0))) (.int 12))) (.ar .add .i64 bo (.int 1)))) (.int 0)))<|am fun F p0 p1=>by
 simp only[aa,ae]at *
 obtain⟨a,b,c⟩:=ab (E.I F bo+1)
 omega
def aHL:List Fa:=[arf,arg,arh,ari,arj,ark]
theorem aFX:BodyOk Tryz.prog (CA (some (fX 0 16))) (fX 0 16) (gJ 0 16 5 ey).less (gJ 0 16 5 ey).tmps {(gJ 0 16 5 ey).st with pc:=(gJ 0 16 5 ey).st.pc}:=
 xA good (facts:=fl aHL) (nG _) (anns:=[]) (lY _ (by kernel_rfl)) (nats:=i9.l) i9.h (n:=3000) (by kernel_rfl) (by kernel_rfl)
theorem aFW:BodyOk Tryz.prog (CA (some (fX 0 16))) (fX 0 16) (gJ 0 16 5 ey).less (gJ 0 16 5 ey).tmps (gJ 0 16 5 ey).st:=aFX
theorem aH7:fL Tryz.prog (CA (some (fX 0 16))):=EC rfl (by kernel_rfl) (by
 intro τ hτ;rcases List.mem_cons.1 hτ with rfl|hτ
 ·exact aFW
 cases hτ)
def arl:=fb [Ja,Wl,(.not (cmp .lss (fn 9 (pr (fn 1 (pr U0 (.int 32))) (.int 2))) eR))] (cmp .lss eR (fn 9 (pr (fn 1 (pr bq (.int 32))) (.int 2))))<|aj fun F p0 p1 p2=>by
 have hp0:=ie p0 32 (by rfl)
 have:=@r6 F _ _ hp0 (.int 2)
 simp_all
def arm:=fb cV (.and (cmp .eql (fn 1 (pr (fn 1 (pr U0 (.int 32))) (fn 6 (pr (fn 8 (pr eR (.int 2))) (.int 0))))) (fn 1 (pr (fn 1 (pr bq (.int 32))) (fn 6 (pr (fn 8 (pr eR (.int 2))) (.int 0)))))) (.and (cmp .eql (fn 1 (pr (fn 1 (pr U0 (.int 32))) (fn 6 (pr (fn 8 (pr eR (.int 2))) (.int 1))))) (fn 1 (pr (fn 1 (pr bq (.int 32))) (fn 6 (pr (fn 8 (pr eR (.int 2))) (.int 1)))))) w5))<|ah fun F p0=>by
 have hp0:=ie p0 32 (by rfl)
 have:=@iI F _ _ hp0 (fn 6 (pr (fn 8 (pr eR (.int 2))) (.int 0)))
 have:=@iI F _ _ hp0 (fn 6 (pr (fn 8 (pr eR (.int 2))) (.int 1)))
 simp only[aa]at *;grind
def arn:=fb Bu (.not (cmp .lss (.ar .add .i64 eR (.int 1)) (.int 0)))<|aj fun F p0 p1 p2=>by
 have:=ai p0
 simp only[aa,ae]at *
 obtain⟨a,b,c⟩:=ab (E.I F eR+1)
 omega
def aro:=fb Bu (.not (cmp .lss (fn 9 (pr (fn 1 (pr U0 (.int 32))) (.int 2))) (.ar .add .i64 eR (.int 1))))<|aj fun F p0 p1 p2=>by
 simp only[aa,ae]at *
 obtain⟨a,b,c⟩:=ab (E.I F eR+1)
 omega
def arp:=fb Bu (cmp .lss (fn 7 (pr (fn 9 (pr (fn 1 (pr U0 (.int 32))) (.int 2))) (.ar .add .i64 eR (.int 1)))) (fn 7 (pr (fn 9 (pr (fn 1 (pr U0 (.int 32))) (.int 2))) eR)))<|aj fun F p0 p1 p2=>by
 have:=ai p0
 simp only[aa,ae]at *
 obtain⟨a,b,c⟩:=ab (E.I F eR+1)
 omega
def arq:=fb Bu (.not (cmp .lss (fn 7 (pr (fn 9 (pr (fn 1 (pr U0 (.int 32))) (.int 2))) (.ar .add .i64 eR (.int 1)))) (.int 0)))<|aj fun F p0 p1 p2=>by
 simp only[aa,ae]at *
 obtain⟨a,b,c⟩:=ab (E.I F eR+1)
 omega
def aHM:List Fa:=[arl,arm,arn,aro,arp,arq]
theorem aFZ:BodyOk Tryz.prog (CB (some (fX 2 24))) (fX 2 24) (gJ 2 24 6 gD).less (gJ 2 24 6 gD).tmps {(gJ 2 24 6 gD).st with pc:=(gJ 2 24 6 gD).st.pc}:=
 xA good (facts:=fl aHM) (nG _) (anns:=[]) (lY _ (by kernel_rfl)) (nats:=i9.l) i9.h (n:=3000) (by kernel_rfl) (by kernel_rfl)
theorem aFY:BodyOk Tryz.prog (CB (some (fX 2 24))) (fX 2 24) (gJ 2 24 6 gD).less (gJ 2 24 6 gD).tmps (gJ 2 24 6 gD).st:=aFZ
theorem aH8:fL Tryz.prog (CB (some (fX 2 24))):=EC rfl (by kernel_rfl) (by
 intro τ hτ;rcases List.mem_cons.1 hτ with rfl|hτ
 ·exact aFY
 cases hτ)
def ars:=fb cV (fn 12 (pr (fn 1 (pr U0 (.int 6))) (fn 1 (pr bq (.int 6)))))<|ah fun F p0=>by
 have hp0:=ie p0 6 (by rfl);grind[mj]
def art:=fb cV (fn 12 (pr (fn 1 (pr U0 (.int 7))) (fn 1 (pr bq (.int 7)))))<|ah fun F p0=>by
 have hp0:=ie p0 7 (by rfl);grind[mj]
def aru:=fb cV (fn 12 (pr (fn 1 (pr U0 (.int 8))) (fn 1 (pr bq (.int 8)))))<|ah fun F p0=>by
 have hp0:=ie p0 8 (by rfl);grind[mj]
def arv:=fb cV (fn 12 (pr (fn 1 (pr U0 (.int 9))) (fn 1 (pr bq (.int 9)))))<|ah fun F p0=>by
 have hp0:=ie p0 9 (by rfl);grind[mj]
def arw:=fb eE (.not (cmp .lss (.int 100) (fn 0 (fn 1 (pr U0 (.int 6))))))<|ah fun F p0=>by
 have:=ai p0
 simp only[aa]at *;grind
def arx:=fb eE (.not (cmp .lss (.int 100) (fn 0 (fn 1 (pr U0 (.int 7))))))<|ah fun F p0=>by
 have:=ai p0
 simp only[aa]at *;grind
def ary:=fb eE (.not (cmp .lss (.int 100) (fn 0 (fn 1 (pr U0 (.int 8))))))<|ah fun F p0=>by
 have:=ai p0
 simp only[aa]at *;grind
def arz:=fb eE (.not (cmp .lss (.int 100) (fn 0 (fn 1 (pr U0 (.int 9))))))<|ah fun F p0=>by
 have:=ai p0
 simp only[aa]at *;grind
def QJ:=fb (Bi::(.not VE)::(.not wV)::(.not wW)::Bj) Bl<|aJ fun F p0 p1 p2 p3 p4=>by
 simp only[aa,ae]at *
 obtain⟨a,b,c⟩:=ab (E.I F dO+1)
 omega
def QK:=fb [wW] Bl<|ah fun F p0=>by
 simp only[aa,ae]at *
 obtain⟨a,b,c⟩:=ab (E.I F dO+1)
 omega
def QL:=fb [wV] Bl<|ah fun F p0=>by
 simp only[aa,ae]at *
 obtain⟨a,b,c⟩:=ab (E.I F dO+1)
 omega
def QM:=fb IZ Bl<|aj fun F p0 p1 p2=>by
 simp only[aa,ae]at *
 obtain⟨a,b,c⟩:=ab (E.I F dO+1)
 omega
def QN:=fb VF Bm<|aj fun F p0 p1 p2=>by
 simp only[aa,ae]at *
 obtain⟨a,b,c⟩:=ab (E.I F dO+1)
 omega
def QO:=fb [wW] Bm<|ah fun F p0=>by
 simp only[aa,ae]at *
 obtain⟨a,b,c⟩:=ab (E.I F dO+1)
 omega
def QP:=fb [wV] Bm<|ah fun F p0=>by
 simp only[aa,ae]at *
 obtain⟨a,b,c⟩:=ab (E.I F dO+1)
 omega
def QQ:=fb IZ Bm<|aj fun F p0 p1 p2=>by
 simp only[aa,ae]at *
 obtain⟨a,b,c⟩:=ab (E.I F dO+1)
 omega
def QT:=fb (Bi::Bj) I0<|am fun F p0 p1=>by
 simp only[aa,ae]at *
 obtain⟨a,b,c⟩:=ab (E.I F dO+1)
 omega
def QU:=fb [wW] I0<|ah fun F p0=>by
 simp only[aa,ae]at *
 obtain⟨a,b,c⟩:=ab (E.I F dO+1)
 omega
def QV:=fb [wV] I0<|ah fun F p0=>by
 simp only[aa,ae]at *
 obtain⟨a,b,c⟩:=ab (E.I F dO+1)
 omega
def QW:=fb VF Bn<|aj fun F p0 p1 p2=>by
 simp only[aa,ae]at *
 obtain⟨a,b,c⟩:=ab (E.I F dO+1)
 omega
def QX:=fb [wW] Bn<|ah fun F p0=>by
 simp only[aa,ae]at *
 obtain⟨a,b,c⟩:=ab (E.I F dO+1)
 omega
def QY:=fb [wV] Bn<|ah fun F p0=>by
 simp only[aa,ae]at *
 obtain⟨a,b,c⟩:=ab (E.I F dO+1)
 omega
def QZ:=fb IZ Bn<|aj fun F p0 p1 p2=>by
 simp only[aa,ae]at *
 obtain⟨a,b,c⟩:=ab (E.I F dO+1)
 omega
def aHN:List Fa:=[ars,art,aru,arv,arw,arx,ary,arz,QJ,QK,QL,QM,QN,QO,QP,QQ,QT,QU,QV,QW,QX,QY,QZ]
theorem aF1:BodyOk Tryz.prog (tv (some mr)) mr (gK 0).less (gK 0).tmps {(gK 0).st with pc:=(gK 0).st.pc}:=
 xA good (facts:=fl aHN) (nG _) (anns:=[]) (lY _ (by kernel_rfl)) (nats:=i9.l) i9.h (n:=3000) (by kernel_rfl) (by kernel_rfl)
theorem aF0:BodyOk Tryz.prog (tv (some mr)) mr (gK 0).less (gK 0).tmps (gK 0).st:=aF1
def arA:=fb cV (fn 12 (pr (fn 1 (pr U0 (.int 20))) (fn 1 (pr bq (.int 20)))))<|ah fun F p0=>by
 have hp0:=ie p0 20 (by rfl);grind[mj]
def arB:=fb cV (fn 12 (pr (fn 1 (pr U0 (.int 21))) (fn 1 (pr bq (.int 21)))))<|ah fun F p0=>by
 have hp0:=ie p0 21 (by rfl);grind[mj]
def arC:=fb cV (fn 12 (pr (fn 1 (pr U0 (.int 22))) (fn 1 (pr bq (.int 22)))))<|ah fun F p0=>by
 have hp0:=ie p0 22 (by rfl);grind[mj]
def arD:=fb cV (fn 12 (pr (fn 1 (pr U0 (.int 23))) (fn 1 (pr bq (.int 23)))))<|ah fun F p0=>by
 have hp0:=ie p0 23 (by rfl);grind[mj]
def arE:=fb eE (.not (cmp .lss (.int 100) (fn 0 (fn 1 (pr U0 (.int 20))))))<|ah fun F p0=>by
 have:=ai p0
 simp only[aa]at *;grind
def arF:=fb eE (.not (cmp .lss (.int 100) (fn 0 (fn 1 (pr U0 (.int 21))))))<|ah fun F p0=>by
 have:=ai p0
 simp only[aa]at *;grind
def arG:=fb eE (.not (cmp .lss (.int 100) (fn 0 (fn 1 (pr U0 (.int 22))))))<|ah fun F p0=>by
 have:=ai p0
 simp only[aa]at *;grind
def arH:=fb eE (.not (cmp .lss (.int 100) (fn 0 (fn 1 (pr U0 (.int 23))))))<|ah fun F p0=>by
 have:=ai p0
 simp only[aa]at *;grind
def aHO:List Fa:=[arA,arB,arC,arD,arE,arF,arG,arH,QJ,QK,QL,QM,QN,QO,QP,QQ,QT,QU,QV,QW,QX,QY,QZ]
theorem aF3:BodyOk Tryz.prog (tv (some mr)) mr (gK 1).less (gK 1).tmps {(gK 1).st with pc:=(gK 1).st.pc}:=
 xA good (facts:=fl aHO) (nG _) (anns:=[]) (lY _ (by kernel_rfl)) (nats:=i9.l) i9.h (n:=3000) (by kernel_rfl) (by kernel_rfl)
theorem aF2:BodyOk Tryz.prog (tv (some mr)) mr (gK 1).less (gK 1).tmps (gK 1).st:=aF3
theorem aH9:fL Tryz.prog (tv (some mr)):=EC rfl (by kernel_rfl) (by
 intro τ hτ;rcases List.mem_cons.1 hτ with rfl|hτ
 ·exact aF0
 rcases List.mem_cons.1 hτ with rfl|hτ
 ·exact aF2
 cases hτ)
def aat:List Ann:=(tv (some mr))::[]
theorem aFs:∀x∈aat,fL Tryz.prog x:=by
 intro x hx;rcases List.mem_cons.1 hx with rfl|hx
 ·exact aH9
 exact lY [] (by kernel_rfl) x hx
def arJ:=fb cV (cmp .eql (fn 1 (pr U0 (.int 28))) (fn 1 (pr bq (.int 28))))<|ah fun F p0=>by
 have hi28:=fH p0 28 (by decide) rfl rfl rfl;simp only[aa]at *;grind
def arL:=fb Bo VG<|ah fun F p0=>by
 simp only[aa,ae]at *
 obtain⟨a,b,c⟩:=ab (E.I F gQ+1)
 omega
def arM:=fb Bp VG<|ah fun F p0=>by
 simp only[aa,ae]at *
 obtain⟨a,b,c⟩:=ab (E.I F gQ+1)
 omega
def arN:=fb cV (cmp .eql (fn 1 (pr U0 (.int 27))) (fn 1 (pr bq (.int 27))))<|ah fun F p0=>by
 have hi27:=fH p0 27 (by decide) rfl rfl rfl;simp only[aa]at *;grind
def arO:=fb cV (.iff (fn 1 (pr U0 (.int 26))) (fn 1 (pr bq (.int 26))))<|ah fun F p0=>by
 have hb26:=vn p0 26 (by decide);simp_all
def arP:=fb cV (.iff (fn 1 (pr U0 (.int 25))) (fn 1 (pr bq (.int 25))))<|ah fun F p0=>by
 have hb25:=vn p0 25 (by decide);simp_all
def arQ:=fb cV (.iff (fn 1 (pr U0 (.int 24))) (fn 1 (pr bq (.int 24))))<|ah fun F p0=>by
 have hb24:=vn p0 24 (by decide);simp_all
def arR:=fb cV (.and (cmp .eql (fn 1 (pr U0 (.int 16))) (fn 1 (pr bq (.int 16)))) (.and (cmp .eql (fn 1 (pr U0 (.int 17))) (fn 1 (pr bq (.int 17)))) (.and (cmp .eql (fn 1 (pr U0 (.int 18))) (fn 1 (pr bq (.int 18)))) (.and (cmp .eql (fn 1 (pr U0 (.int 19))) (fn 1 (pr bq (.int 19)))) w5))))<|ah fun F p0=>by
 have hi16:=fH p0 16 (by decide) rfl rfl rfl;have hi17:=fH p0 17 (by decide) rfl rfl rfl;have hi18:=fH p0 18 (by decide) rfl rfl rfl;have hi19:=fH p0 19 (by decide) rfl rfl rfl;simp only[aa]at *;grind
def arS:=fb cV (cmp .eql (fn 1 (pr U0 (.int 15))) (fn 1 (pr bq (.int 15))))<|ah fun F p0=>by
 have hi15:=fH p0 15 (by decide) rfl rfl rfl;simp only[aa]at *;grind
def arT:=fb cV (cmp .eql (fn 1 (pr U0 (.int 14))) (fn 1 (pr bq (.int 14))))<|ah fun F p0=>by
 have hi14:=fH p0 14 (by decide) rfl rfl rfl;simp only[aa]at *;grind
def arU:=fb cV (cmp .eql (fn 1 (pr U0 (.int 13))) (fn 1 (pr bq (.int 13))))<|ah fun F p0=>by
 have hi13:=fH p0 13 (by decide) rfl rfl rfl;simp only[aa]at *;grind
def arV:=fb cV (.iff (fn 1 (pr U0 (.int 12))) (fn 1 (pr bq (.int 12))))<|ah fun F p0=>by
 have hb12:=vn p0 12 (by decide);simp_all
def arW:=fb cV (.iff (fn 1 (pr U0 (.int 11))) (fn 1 (pr bq (.int 11))))<|ah fun F p0=>by
 have hb11:=vn p0 11 (by decide);simp_all
def arX:=fb cV (.iff (fn 1 (pr U0 (.int 10))) (fn 1 (pr bq (.int 10))))<|ah fun F p0=>by
 have hb10:=vn p0 10 (by decide);simp_all
def arY:=fb cV (.and (cmp .eql (fn 1 (pr U0 (.int 2))) (fn 1 (pr bq (.int 2)))) (.and (cmp .eql (fn 1 (pr U0 (.int 3))) (fn 1 (pr bq (.int 3)))) (.and (cmp .eql (fn 1 (pr U0 (.int 4))) (fn 1 (pr bq (.int 4)))) (.and (cmp .eql (fn 1 (pr U0 (.int 5))) (fn 1 (pr bq (.int 5)))) w5))))<|ah fun F p0=>by
 have hi2:=fH p0 2 (by decide) rfl rfl rfl;have hi3:=fH p0 3 (by decide) rfl rfl rfl;have hi4:=fH p0 4 (by decide) rfl rfl rfl;have hi5:=fH p0 5 (by decide) rfl rfl rfl;simp only[aa]at *;grind
def arZ:=fb cV (cmp .eql (fn 1 (pr U0 (.int 1))) (fn 1 (pr bq (.int 1))))<|ah fun F p0=>by
 have hi1:=fH p0 1 (by decide) rfl rfl rfl;simp only[aa]at *;grind
def ar0:=fb Bo VH<|ah fun F p0=>by
 simp only[aa,ae]at *
 obtain⟨a,b,c⟩:=ab (E.I F gQ+1)
 omega
def ar1:=fb Bp VH<|ah fun F p0=>by
 simp only[aa,ae]at *
 obtain⟨a,b,c⟩:=ab (E.I F gQ+1)
 omega
def ar2:=fb Bo VI<|ah fun F p0=>by
 simp only[aa,ae]at *
 obtain⟨a,b,c⟩:=ab (E.I F gQ+1)
 omega
def ar3:=fb Bp VI<|ah fun F p0=>by
 simp only[aa,ae]at *
 obtain⟨a,b,c⟩:=ab (E.I F gQ+1)
 omega
def ar4:=fb Bo VJ<|ah fun F p0=>by
 simp only[aa,ae]at *
 obtain⟨a,b,c⟩:=ab (E.I F gQ+1)
 omega
def ar5:=fb Bp VJ<|ah fun F p0=>by
 simp only[aa,ae]at *
 obtain⟨a,b,c⟩:=ab (E.I F gQ+1)
 omega
def aHP:List Fa:=[arJ,arL,arM,arN,arO,arP,arQ,arR,arS,arT,arU,arV,arW,arX,arY,arZ,ar0,ar1,ar2,ar3,ar4,ar5]
theorem aF5:BodyOk Tryz.prog (CC (some (fX 4 32))) (fX 4 32) (pN).less (pN).tmps {(pN).st with pc:=(pN).st.pc}:=
 xA good (facts:=fl aHP) (nG _) (anns:=aat) aFs (nats:=i9.l) i9.h (n:=3000) (by kernel_rfl) (by kernel_rfl)
theorem aF4:BodyOk Tryz.prog (CC (some (fX 4 32))) (fX 4 32) (pN).less (pN).tmps (pN).st:=aF5
theorem aIa:fL Tryz.prog (CC (some (fX 4 32))):=EC rfl (by kernel_rfl) (by
 intro τ hτ;rcases List.mem_cons.1 hτ with rfl|hτ
 ·exact aF4
 cases hτ)
def ar6:=fb cV (fn 187 (pr (fn 1 (pr bq (.int 29))) (fn 1 (pr U0 (.int 29)))))<|ah fun F p0=>by
 simp_all[aMN]
def ar7:=fb cV (cmp .eql (fn 9 (pr (fn 1 (pr U0 (.int 0))) (.int 12))) (fn 9 (pr (fn 1 (pr bq (.int 0))) (.int 12))))<|ah fun F p0=>by
 have hp0:=ie p0 0 (by rfl)
 have:=@r6 F _ _ hp0 (.int 12)
 simp only[aa]at *;grind
def ar8:=fb cV (fn 187 (pr (fn 1 (pr bq (.int 30))) (fn 1 (pr U0 (.int 30)))))<|ah fun F p0=>by
 simp_all[aMO]
def ar9:=fb cV (fn 12 (pr (fn 1 (pr U0 (.int 31))) (fn 1 (pr bq (.int 31)))))<|ah fun F p0=>by
 have hp0:=ie p0 31 (by rfl);grind[mj]
def asa:=fb eE (.not (cmp .lss (.int 100) (fn 0 (fn 1 (pr U0 (.int 31))))))<|ah fun F p0=>by
 have:=ai p0
 simp only[aa]at *;grind
def asb:=fb cV (cmp .eql (fn 1 (pr U0 (.int 37))) (fn 1 (pr bq (.int 37))))<|ah fun F p0=>by
 have hi37:=fH p0 37 (by decide) rfl rfl rfl;simp only[aa]at *;grind
def asc:=fb cV (cmp .eql (fn 1 (pr U0 (.int 36))) (fn 1 (pr bq (.int 36))))<|ah fun F p0=>by
 have hi36:=fH p0 36 (by decide) rfl rfl rfl;simp only[aa]at *;grind
def asd:=fb cV (cmp .eql (fn 1 (pr U0 (.int 35))) (fn 1 (pr bq (.int 35))))<|ah fun F p0=>by
 have hi35:=fH p0 35 (by decide) rfl rfl rfl;simp only[aa]at *;grind
def ase:=fb cV (cmp .eql (fn 1 (pr U0 (.int 34))) (fn 1 (pr bq (.int 34))))<|ah fun F p0=>by
 have hi34:=fH p0 34 (by decide) rfl rfl rfl;simp only[aa]at *;grind
def asf:=fb cV (cmp .eql (fn 1 (pr U0 (.int 33))) (fn 1 (pr bq (.int 33))))<|ah fun F p0=>by
 have hi33:=fH p0 33 (by decide) rfl rfl rfl;simp only[aa]at *;grind
def asg:=fb cV (cmp .eql (fn 9 (pr (fn 1 (pr U0 (.int 32))) (.int 2))) (fn 9 (pr (fn 1 (pr bq (.int 32))) (.int 2))))<|ah fun F p0=>by
 have hp0:=ie p0 32 (by rfl)
 have:=@r6 F _ _ hp0 (.int 2)
 simp only[aa]at *;grind
def rN:List Fa:=[ar6,ar7,mw,vP,ar8,sy,vQ,ar9,asa,asb,asc,asd,ase,asf,asg]
def aas:List Ann:=(CA (some (fX 0 16)))::(CB (some (fX 2 24)))::(CC (some (fX 4 32)))::[]
theorem aFr:∀x∈aas,fL Tryz.prog x:=by
 intro x hx;rcases List.mem_cons.1 hx with rfl|hx
 ·exact aH7
 rcases List.mem_cons.1 hx with rfl|hx
 ·exact aH8
 rcases List.mem_cons.1 hx with rfl|hx
 ·exact aIa
 exact lY [] (by kernel_rfl) x hx
theorem aK6:aL Tryz.prog (bh (aKu)):=
 agA good (facts:=fl rN) (nG _) (anns:=aas) aFr (nats:=i9.l) i9.h (n:=3000) (ms:=[]) (by kernel_rfl)
def adZ:Nl:=nc (aHW (mss:=[yW,yW]) aK6) i9
end
end Go.Proofs.YtnggbcblogpnfaaGreat.combatBlocks
