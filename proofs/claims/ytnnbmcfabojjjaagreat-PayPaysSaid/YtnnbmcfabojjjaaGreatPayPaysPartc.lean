/-
  PayPays: contracts of functions, part 3.
-/
import Derived.Test.YtnnbmcfabojjjaaGreatPayPaysPartb
namespace Go.Proofs.YtnnbmcfabojjjaaGreat.payPays
open Go.ChangeShapes Go.WideShapes Go.ChangeAt Go.RowKit
open Go.SX
open Go.SX.E (fn pr cmp var)
set_option linter.unusedVariables false
set_option linter.unusedSimpArgs false
set_option maxRecDepth 100000
noncomputable section
abbrev X0:E:=var 0
abbrev X1:E:=cmp .eql (fn 1 (pr X0 (.int 34))) (.int 0)
abbrev X2:E:=cmp .eql (.ar .sub .i64 (.int 1) (fn 1 (pr X0 (.int 34)))) (.int 0)
abbrev X3:E:=.not X2
abbrev X4:E:=cmp .eql (.ar .sub .i64 (.int 1) (fn 1 (pr X0 (.int 34)))) (.int 1)
abbrev X5:E:=cmp .lss (.int 1) (fn 1 (pr X0 (.int 34)))
abbrev X6:E:=.not X5
abbrev X7:E:=cmp .lss (fn 1 (pr X0 (.int 34))) (.int 0)
abbrev X8:E:=.not X7
abbrev X9:E:=fn 117 X0
abbrev ub:=[X9]
abbrev X11:=X8::ub
abbrev OG:=X6::X11
abbrev X13:=X3::OG
abbrev OH:E:=pr X0 (pr (fn 1 (pr X0 (.int 34))) (.int 2))
abbrev X15:E:=pr (fn 1 (pr X0 (.int 22))) OH
abbrev X16:E:=fn 109 X15
abbrev OI:E:=pr X0 (pr (fn 7 (pr (.int 1) (fn 1 (pr X0 (.int 34))))) (.int 2))
abbrev X18:E:=pr (fn 1 (pr X0 (.int 22))) OI
abbrev X19:E:=fn 109 X18
abbrev X20:E:=pr (fn 1 (pr X0 (.int 8))) OI
abbrev X21:E:=fn 109 X20
abbrev dL:E:=var 8
abbrev xa:E:=cmp .lss dL (fn 0 (fn 1 (pr X0 (.int 31))))
abbrev BC:E:=var 9
abbrev mz:E:=.bool false
abbrev X26:E:=.not (fn 32 (pr BC (pr (fn 1 (pr (fn 1 (pr X0 (.int 31))) dL)) mz)))
abbrev X27:E:=cmp .lss (var 12) (.int 0)
abbrev X28:E:=.not X27
abbrev X29:E:=var 10
abbrev X30:E:=pr X29 (fn 1 (pr (fn 1 (pr X0 (.int 31))) dL))
abbrev X31:E:=fn 114 X30
abbrev X32:E:=.iff X28 X31
abbrev xb:E:=fn 108 X0
abbrev X34:E:=pr dL (.int 0)
abbrev X35:E:=pr X0 X34
abbrev X36:E:=pr BC X35
abbrev X37:E:=fn 113 X36
abbrev X38:E:=pr X0 dL
abbrev X39:E:=fn 111 X38
abbrev X40:E:=cmp .lss dL (.int 0)
abbrev X41:E:=.not X40
abbrev X42:E:=pr X29 OH
abbrev X43:E:=fn 109 X42
abbrev X44:=[X43]
abbrev X45:=X41::X44
abbrev X46:=X39::X45
abbrev X47:=X37::X46
abbrev X48:=xb::X47
abbrev X49:=X8::X48
abbrev X50:=X6::X49
abbrev OL:E:=fn 110 X0
abbrev xc:E:=.iff mz OL
abbrev X53:=[X41]
abbrev X54:=xa::X53
abbrev GG:=X9::X54
abbrev X56:E:=cmp .lss (fn 0 (fn 1 (pr X0 (.int 31)))) dL
abbrev X57:E:=.not X56
abbrev X58:=[X57]
abbrev GH:E:=fn 111 (pr X0 (fn 0 (fn 1 (pr X0 (.int 31)))))
abbrev X60:=X9::X47
abbrev X61:=xb::X60
abbrev X62:=X8::X61
abbrev X63:=X6::X62
abbrev X64:=X28::X63
abbrev X65:=X32::X64
abbrev X66:=X26::X65
abbrev X67:=xa::X66
abbrev GI:E:=.bool true
abbrev cf:E:=var 16
abbrev ud:E:=cmp .lss cf (fn 9 (pr (fn 1 (pr X0 (.int 32))) (.int 2)))
abbrev ue:E:=var 17
abbrev OM:E:=.not (fn 32 (pr ue (pr (.ar .sub .i64 (.int 0) (fn 1 (pr (fn 1 (pr X0 (.int 32))) (fn 6 (pr (fn 8 (pr cf (.int 2))) (.int 0)))))) mz)))
abbrev X73:E:=cmp .lss (var 21) (.int 0)
abbrev X74:E:=.not X73
abbrev X75:E:=var 19
abbrev X76:E:=pr X75 (fn 1 (pr (fn 1 (pr X0 (.int 32))) (fn 6 (pr (fn 8 (pr cf (.int 2))) (.int 0)))))
abbrev X77:E:=fn 114 X76
abbrev X78:E:=.iff X74 X77
abbrev X79:E:=pr (fn 0 (fn 1 (pr X0 (.int 31)))) cf
abbrev X80:E:=pr X0 X79
abbrev X81:E:=pr ue X80
abbrev X82:E:=fn 113 X81
abbrev ON:E:=fn 112 (pr X0 cf)
abbrev X84:E:=cmp .lss cf (.int 0)
abbrev OO:E:=.not X84
abbrev X86:E:=pr X75 OI
abbrev X87:E:=fn 109 X86
abbrev X88:=[X8,xb]
abbrev X89:=X6::X88
abbrev X90:=X87::X89
abbrev X91:=OO::X90
abbrev X92:=GH::X91
abbrev X93:=ON::X92
abbrev GJ:=X82::X93
abbrev X95:=[OO]
abbrev X96:=ud::X95
abbrev GK:=X9::X96
abbrev X98:E:=cmp .lss (var 20) (.int 0)
abbrev X99:E:=.not X98
abbrev aSV:E:=pr (fn 1 (pr X0 (.int 31))) (fn 1 (pr (fn 1 (pr X0 (.int 32))) (fn 6 (pr (fn 8 (pr cf (.int 2))) (.int 1)))))
abbrev aSW:E:=fn 114 aSV
abbrev ae8:E:=.iff X99 aSW
abbrev aSX:=X87::X6::X8::xb::ub
abbrev aSY:=OO::aSX
abbrev aSZ:=GH::aSY
abbrev aS0:=ON::aSZ
abbrev aS1:=X82::aS0
abbrev aS2:=X74::aS1
abbrev aS3:=X78::aS2
abbrev aS4:=X99::aS3
abbrev aS5:=ae8::aS4
abbrev aS6:=OM::aS5
abbrev aS7:List E:=(fn 32 (pr ue (pr (fn 1 (pr (fn 1 (pr X0 (.int 32))) (fn 6 (pr (fn 8 (pr cf (.int 2))) (.int 1))))) mz)))::aS6
abbrev ae9:=ud::aS7
abbrev cj:E:=.iff mz (fn 115 X0)
abbrev afa:E:=cmp .lss (fn 1 (pr X0 (.int 33))) (.int 0)
abbrev cA:E:=.not afa
abbrev afb:E:=cmp .lss (.int 1000) (fn 1 (pr X0 (.int 33)))
abbrev cJ:E:=.not afb
abbrev afc:E:=cmp .lss (fn 1 (pr X0 (.int 35))) (.int 0)
abbrev cN:E:=.not afc
abbrev afd:E:=cmp .lss (.int 10) (fn 1 (pr X0 (.int 35)))
abbrev cU:E:=.not afd
abbrev afe:E:=cmp .lss (fn 1 (pr X0 (.int 36))) (.int (-1))
abbrev cY:E:=.not afe
abbrev aff:E:=cmp .lss (.int 1) (fn 1 (pr X0 (.int 36)))
abbrev dc:E:=.not aff
abbrev afg:E:=cmp .lss (fn 1 (pr X0 (.int 37))) (.int 0)
abbrev df:E:=.not afg
abbrev afh:E:=cmp .lss (.int 2) (fn 1 (pr X0 (.int 37)))
abbrev dp:E:=.not afh
abbrev afi:E:=cmp .lss (fn 1 (pr X0 (.int 1))) (.int 0)
abbrev dy:E:=.not afi
abbrev afj:E:=cmp .lss (.int 9999) (fn 1 (pr X0 (.int 1)))
abbrev dA:E:=.not afj
abbrev afk:E:=cmp .lss (fn 1 (pr X0 (.int 2))) (.int 0)
abbrev dH:E:=.not afk
abbrev afl:E:=cmp .lss (.int 99) (fn 1 (pr X0 (.int 2)))
abbrev afm:E:=cmp .lss (fn 1 (pr X0 (.int 3))) (.int 0)
abbrev dR:E:=.not afm
abbrev afn:E:=cmp .lss (.int 99) (fn 1 (pr X0 (.int 3)))
abbrev afo:E:=cmp .lss (fn 1 (pr X0 (.int 4))) (.int 0)
abbrev ez:E:=.not afo
abbrev afp:E:=cmp .lss (.int 99) (fn 1 (pr X0 (.int 4)))
abbrev afq:E:=cmp .lss (fn 1 (pr X0 (.int 5))) (.int 0)
abbrev fv:E:=.not afq
abbrev afr:E:=cmp .lss (.int 99) (fn 1 (pr X0 (.int 5)))
abbrev afs:E:=cmp .lss (fn 1 (pr X0 (.int 13))) (.int 0)
abbrev fO:E:=.not afs
abbrev aft:E:=cmp .lss (.int 7) (fn 1 (pr X0 (.int 13)))
abbrev gb:E:=.not aft
abbrev afu:E:=cmp .lss (fn 1 (pr X0 (.int 14))) (.int 0)
abbrev gm:E:=.not afu
abbrev afv:E:=cmp .lss (.int 255) (fn 1 (pr X0 (.int 14)))
abbrev afw:E:=cmp .lss (fn 1 (pr X0 (.int 15))) (.int 0)
abbrev ig:E:=.not afw
abbrev afx:E:=cmp .lss (.int 9999) (fn 1 (pr X0 (.int 15)))
abbrev iQ:E:=.not afx
abbrev afy:E:=cmp .lss (fn 1 (pr X0 (.int 16))) (.int 0)
abbrev jd:E:=.not afy
abbrev afz:E:=cmp .lss (.int 99) (fn 1 (pr X0 (.int 16)))
abbrev afA:E:=cmp .lss (fn 1 (pr X0 (.int 17))) (.int 0)
abbrev kx:E:=.not afA
abbrev afB:E:=cmp .lss (.int 99) (fn 1 (pr X0 (.int 17)))
abbrev afC:E:=cmp .lss (fn 1 (pr X0 (.int 18))) (.int 0)
abbrev my:E:=.not afC
abbrev afD:E:=cmp .lss (.int 99) (fn 1 (pr X0 (.int 18)))
abbrev afE:E:=cmp .lss (fn 1 (pr X0 (.int 19))) (.int 0)
abbrev pR:E:=.not afE
abbrev afF:E:=cmp .lss (.int 99) (fn 1 (pr X0 (.int 19)))
abbrev afG:E:=cmp .lss (fn 1 (pr X0 (.int 27))) (.int 0)
abbrev uc:E:=.not afG
abbrev afH:E:=cmp .lss (.int 7) (fn 1 (pr X0 (.int 27)))
abbrev w9:E:=.not afH
abbrev afI:E:=cmp .lss (fn 1 (pr X0 (.int 28))) (.int 0)
abbrev Bz:E:=.not afI
abbrev afJ:E:=cmp .lss (.int 255) (fn 1 (pr X0 (.int 28)))
abbrev OJ:E:=.iff (var 3) xb
abbrev BB:E:=cmp .lss (var 1) (.int 0)
abbrev GD:E:=.iff (.not BB) (.not (fn 103 (pr (fn 1 (pr X0 (.int 29))) (pr mz (fn 9 (pr (fn 1 (pr X0 (.int 29))) (.int 5)))))))
abbrev GF:E:=cmp .lss (var 2) (.int 0)
abbrev OK:E:=.iff (.not GF) (.not (fn 103 (pr (fn 1 (pr X0 (.int 30))) (pr GI (fn 9 (pr (fn 1 (pr X0 (.int 30))) (.int 5)))))))
def ay7:=fb [X1,X3] X4<|ai fun F p0 p1=>by
 simp only[aa,ab]at *
 obtain⟨a,b,c⟩:=ae ((1)-(E.I F (fn 1 (pr X0 (.int 34)))))
 omega
def Yd:=fb [X3,X6,X8] X4<|ag fun F p0 p1 p2=>by
 simp only[aa,ab]at *
 obtain⟨a,b,c⟩:=ae ((1)-(E.I F (fn 1 (pr X0 (.int 34)))))
 omega
def azo:=fb ((.not X1)::X13) X16<|aw fun F p0 p1 p2 p3 p4=>by
 have g0:E.I F (fn 1 (pr X0 (.int 34)))=(1):=by
  simp only[aa]at *;omega
 have g1:E.I F _=E.I F (.int 2):=rfl;exact iF 1 2 22 (by decide) (by rfl) g0 g1
def azz:=fb (X2::OG) X16<|am fun F p0 p1 p2 p3=>by
 have g0:E.I F (fn 1 (pr X0 (.int 34)))=(1):=by
  simp only[aa,ab]at *
  obtain⟨a,b,c⟩:=ae ((1)-(E.I F (fn 1 (pr X0 (.int 34)))))
  omega
 have g1:E.I F _=E.I F (.int 2):=rfl;exact iF 1 2 22 (by decide) (by rfl) g0 g1
def azK:=fb (X1::ub) (fn 109 (pr (fn 1 (pr X0 (.int 8))) OH))<|ai fun F p0 p1=>by
 have g0:=by
  simp only[aa]at *;omega
 have g1:E.I F _=E.I F (.int 2):=rfl;exact iF 0 2 8 (by decide) (by rfl) g0 g1
def azS:=fb X13 X19<|am fun F p0 p1 p2 p3=>by
 have g0:E.I F (fn 7 (pr (.int 1) (fn 1 (pr X0 (.int 34)))))=(1):=by
  simp only[aa,ab]at *
  obtain⟨a,b,c⟩:=ae ((1)-(E.I F (fn 1 (pr X0 (.int 34)))))
  omega
 have g1:E.I F _=E.I F (.int 2):=rfl;exact iF 1 2 22 (by decide) (by rfl) g0 g1
def azT:=fb (X2::OG) X21<|am fun F p0 p1 p2 p3=>by
 have g0:E.I F (fn 7 (pr (.int 1) (fn 1 (pr X0 (.int 34)))))=(0):=by
  simp only[aa,ab]at *
  obtain⟨a,b,c⟩:=ae ((1)-(E.I F (fn 1 (pr X0 (.int 34)))))
  omega
 have g1:E.I F _=E.I F (.int 2):=rfl;exact iF 0 2 8 (by decide) (by rfl) g0 g1
def azU:=fb (X1::ub) X19<|ai fun F p0 p1=>by
 have g0:E.I F (fn 7 (pr (.int 1) (fn 1 (pr X0 (.int 34)))))=(1):=by
  simp only[aa]at *;omega
 have g1:E.I F _=E.I F (.int 2):=rfl;exact iF 1 2 22 (by decide) (by rfl) g0 g1
def azV:=fb (X1::X2::ub) X21<|ag fun F p0 p1 p2=>by
 have g0:E.I F (fn 7 (pr (.int 1) (fn 1 (pr X0 (.int 34)))))=(0):=by
  simp only[aa,ab]at *
  obtain⟨a,b,c⟩:=ae ((1)-(E.I F (fn 1 (pr X0 (.int 34)))))
  omega
 have g1:E.I F _=E.I F (.int 2):=rfl;exact iF 0 2 8 (by decide) (by rfl) g0 g1
def Yh:=fb ub (.not (cmp .lss (.int 30) (fn 0 (fn 1 (pr X0 (.int 31))))))<|aj fun F p0=>by
 have:=ap p0
 simp only[aa]at *;omega
def azW:=fa ((fn 111 (pr X0 (.int 0))))<|fun F=>by
 rfl
def azX:=fa ((fn 113 (pr (fn 10 (.int 0)) (pr X0 (pr (.int 0) (.int 0))))))<|fun F=>by
 grind[a4B,aon]
def azY:=fb (xa::X26::X32::X27::X50) xc<|eW fun F p0 p1 p2 p3 p4 p5 p6 p7 p8 p9 ao=>by
 have:=fun a b c d hm=>@KW F _ (fn 6 (pr dL (.int 1))) _ _ _ p6 a b p7 p8 c d ao hm
 simp only[aa]at *;grind
def Yi:=fb GG (.not (cmp .lss (.ar .add .i64 dL (.int 1)) (.int 0)))<|ag fun F p0 p1 p2=>by
 have:=ap p0
 simp only[aa,ab]at *
 obtain⟨a,b,c⟩:=ae (E.I F dL+1)
 omega
def azZ:=fb (xa::(fn 32 (pr BC (pr (fn 1 (pr (fn 1 (pr X0 (.int 31))) dL)) mz)))::X50) xc<|b8 fun F p0 p1 p2 p3 p4 p5 p6 p7 p8=>by
 have:=fun a b c d hm=>@KW F _ (fn 6 (pr dL (.int 1))) _ _ _ p4 a b p5 p6 c d p8 hm
 simp only[aa]at *;grind
def Yj:=fb ub (.not (cmp .lss (.int 30) (fn 9 (pr (fn 1 (pr X0 (.int 32))) (.int 2)))))<|aj fun F p0=>by
 have:=ap p0
 simp only[aa]at *;omega
def Yk:=fb GG (.not (cmp .lss (fn 0 (fn 1 (pr X0 (.int 31)))) (.ar .add .i64 dL (.int 1))))<|ag fun F p0 p1 p2=>by
 simp only[aa,ab]at *
 obtain⟨a,b,c⟩:=ae (E.I F dL+1)
 omega
def az0:=fb ((.not xa)::X9::X39::X58) GH<|am fun F p0 p1 p2 p3=>by
 have g0:E.I F (fn 0 (fn 1 (pr X0 (.int 31))))=E.I F dL:=by
  simp only[aa]at *;omega
 grind[a4z]
def az1:=fb X67 (fn 111 (pr X0 (.ar .add .i64 dL (.int 1))))<|jV fun F p0 p1 p2 p3 p4 p5 p6 p7 p8 p9 ao au=>by
 have:=ap p7
 have:=@ay F dL (.int 1)
 have:=fun a b c d hm=>@KW F _ (.ar .add .i64 dL (.int 1)) _ _ _ p6 a b p8 p9 c d au hm
 simp only[aa]at *;grind
def az2:=fa ((fn 112 (pr X0 (.int 0))))<|fun F=>by
 rfl
def az3:=fb X67 (fn 113 (pr (fn 34 (pr BC (pr (fn 1 (pr (fn 1 (pr X0 (.int 31))) dL)) GI))) (pr X0 (pr (.ar .add .i64 dL (.int 1)) (.int 0)))))<|jV fun F p0 p1 p2 p3 p4 p5 p6 p7 p8 p9 ao au=>by
 have:=ap p7
 have:=@ay F dL (.int 1)
 have:=fun a b c d hm=>@KW F _ (.ar .add .i64 dL (.int 1)) _ _ _ p6 a b p8 p9 c d au hm
 simp only[aa]at *;grind
def az4:=fb ((.not xa)::X9::X37::X58) (fn 113 (pr BC (pr X0 (pr (fn 0 (fn 1 (pr X0 (.int 31)))) (.int 0)))))<|am fun F p0 p1 p2 p3=>by
 have g0:E.I F (fn 0 (fn 1 (pr X0 (.int 31))))=E.I F dL:=by
  simp only[aa]at *;omega
 grind[a4A]
def Yl:=fb GG (cmp .lss (fn 7 (pr (fn 0 (fn 1 (pr X0 (.int 31)))) (.ar .add .i64 dL (.int 1)))) (fn 7 (pr (fn 0 (fn 1 (pr X0 (.int 31)))) dL)))<|ag fun F p0 p1 p2=>by
 have:=ap p0
 simp only[aa,ab]at *
 obtain⟨a,b,c⟩:=ae (E.I F dL+1)
 omega
def az5:=fb (ud::OM::X78::X73::GJ) xc<|jV fun F p0 p1 p2 p3 p4 p5 p6 p7 p8 p9 ao au=>by
 have hw:1<=E.I F _->E.I F _<=500->E.I F _=-(E.I F (fn 1 (pr (fn 1 (pr X0 (.int 32))) (fn 6 (pr (fn 8 (pr cf (.int 2))) (.int 0)))))):=yz
 have:=fun a b c d e hm=>@zo F _ (fn 6 (pr cf (.int 1))) _ _ _ (.ar .sub .i64 (.int 0) (fn 1 (pr (fn 1 (pr X0 (.int 32))) (fn 6 (pr (fn 8 (pr cf (.int 2))) (.int 0)))))) au a b p4 p6 p5 c d p8 hm _ _ rfl rfl e
 simp only[aa]at *;grind
def az6:=fb GK (.not (cmp .lss (.ar .add .i64 cf (.int 1)) (.int 0)))<|ag fun F p0 p1 p2=>by
 have:=ap p0
 simp only[aa,ab]at *
 obtain⟨a,b,c⟩:=ae (E.I F cf+1)
 omega
def az7:=fb (ud::OM::ae8::X98::GJ) xc<|jV fun F p0 p1 p2 p3 p4 p5 p6 p7 p8 p9 ao au=>by
 have hw:1<=E.I F _->E.I F _<=500->E.I F _=-(E.I F (fn 1 (pr (fn 1 (pr X0 (.int 32))) (fn 6 (pr (fn 8 (pr cf (.int 2))) (.int 0)))))):=yz
 have:=fun a b c d e hm=>@zo F _ (fn 6 (pr cf (.int 1))) _ _ _ (.ar .sub .i64 (.int 0) (fn 1 (pr (fn 1 (pr X0 (.int 32))) (fn 6 (pr (fn 8 (pr cf (.int 2))) (.int 0)))))) au a b p4 p6 p5 c d p8 hm _ _ rfl rfl e
 simp only[aa]at *;grind
def az8:=fb (ud::(fn 32 (pr ue (pr (fn 1 (pr (fn 1 (pr X0 (.int 32))) (fn 6 (pr (fn 8 (pr cf (.int 2))) (.int 1))))) mz)))::(fn 32 (pr ue (pr (.ar .sub .i64 (.int 0) (fn 1 (pr (fn 1 (pr X0 (.int 32))) (fn 6 (pr (fn 8 (pr cf (.int 2))) (.int 0)))))) mz)))::GJ) xc<|eW fun F p0 p1 p2 p3 p4 p5 p6 p7 p8 p9 ao=>by
 have hw:1<=E.I F _->E.I F _<=500->E.I F _=-(E.I F (fn 1 (pr (fn 1 (pr X0 (.int 32))) (fn 6 (pr (fn 8 (pr cf (.int 2))) (.int 0)))))):=yz
 have:=fun a b c d e hm=>@zo F _ (fn 6 (pr cf (.int 1))) _ _ _ (.ar .sub .i64 (.int 0) (fn 1 (pr (fn 1 (pr X0 (.int 32))) (fn 6 (pr (fn 8 (pr cf (.int 2))) (.int 0)))))) ao a b p3 p5 p4 c d p7 hm _ _ rfl rfl e
 simp only[aa]at *;grind
def az9:=fb (ud::(.not (fn 32 (pr ue (pr (fn 1 (pr (fn 1 (pr X0 (.int 32))) (fn 6 (pr (fn 8 (pr cf (.int 2))) (.int 1))))) mz))))::GJ) xc<|fA fun F p0 p1 p2 p3 p4 p5 p6 p7 p8 p9=>by
 have hw:1<=E.I F _->E.I F _<=500->E.I F _=-(E.I F (fn 1 (pr (fn 1 (pr X0 (.int 32))) (fn 6 (pr (fn 8 (pr cf (.int 2))) (.int 0)))))):=yz
 have:=fun a b c d e hm=>@zo F _ (fn 6 (pr cf (.int 1))) _ _ _ (.ar .sub .i64 (.int 0) (fn 1 (pr (fn 1 (pr X0 (.int 32))) (fn 6 (pr (fn 8 (pr cf (.int 2))) (.int 0)))))) p9 a b p2 p4 p3 c d p6 hm _ _ rfl rfl e
 simp only[aa]at *;grind
def aAa:=fb [(.not ud),ON,GH,(.not (cmp .lss (fn 9 (pr (fn 1 (pr X0 (.int 32))) (.int 2))) cf))] (.iff GI OL)<|am fun F p0 p1 p2 p3=>by
 have:=@a50 F _ _ p2 p1
 simp only[aa]at *;grind
def Ym:=fb GG (.not (cmp .lss (fn 7 (pr (fn 0 (fn 1 (pr X0 (.int 31)))) (.ar .add .i64 dL (.int 1)))) (.int 0)))<|ag fun F p0 p1 p2=>by
 simp only[aa,ab]at *
 obtain⟨a,b,c⟩:=ae (E.I F dL+1)
 omega
def aAb:=fb GK (.not (cmp .lss (fn 9 (pr (fn 1 (pr X0 (.int 32))) (.int 2))) (.ar .add .i64 cf (.int 1))))<|ag fun F p0 p1 p2=>by
 simp only[aa,ab]at *
 obtain⟨a,b,c⟩:=ae (E.I F cf+1)
 omega
def aAc:=fb ae9 (fn 112 (pr X0 (.ar .add .i64 cf (.int 1))))<|qk fun F p0 p1 p2 p3 p4 p5 p6 p7 p8 p9 ao au az aE aM aN=>by
 have:=ap aN
 have:=@ay F cf (.int 1)
 have hw:1<=E.I F _->E.I F _<=500->E.I F _=-(E.I F (fn 1 (pr (fn 1 (pr X0 (.int 32))) (fn 6 (pr (fn 8 (pr cf (.int 2))) (.int 0)))))):=yz
 have:=fun a b c d e hm=>@zo F _ (.ar .add .i64 cf (.int 1)) _ _ _ (.ar .sub .i64 (.int 0) (fn 1 (pr (fn 1 (pr X0 (.int 32))) (fn 6 (pr (fn 8 (pr cf (.int 2))) (.int 0)))))) aM a b p7 p9 p8 c d au hm _ _ rfl rfl e
 simp only[aa]at *;grind
def aAd:=fb ae9 (fn 113 (pr (fn 34 (pr (fn 34 (pr ue (pr (fn 1 (pr (fn 1 (pr X0 (.int 32))) (fn 6 (pr (fn 8 (pr cf (.int 2))) (.int 1))))) mz))) (pr (.ar .sub .i64 (.int 0) (fn 1 (pr (fn 1 (pr X0 (.int 32))) (fn 6 (pr (fn 8 (pr cf (.int 2))) (.int 0)))))) GI))) (pr X0 (pr (fn 0 (fn 1 (pr X0 (.int 31)))) (.ar .add .i64 cf (.int 1))))))<|qk fun F p0 p1 p2 p3 p4 p5 p6 p7 p8 p9 ao au az aE aM aN=>by
 have:=ap aN
 have:=@ay F cf (.int 1)
 have hw:1<=E.I F _->E.I F _<=500->E.I F _=-(E.I F (fn 1 (pr (fn 1 (pr X0 (.int 32))) (fn 6 (pr (fn 8 (pr cf (.int 2))) (.int 0)))))):=yz
 have:=fun a b c d e hm=>@zo F _ (.ar .add .i64 cf (.int 1)) _ _ _ (.ar .sub .i64 (.int 0) (fn 1 (pr (fn 1 (pr X0 (.int 32))) (fn 6 (pr (fn 8 (pr cf (.int 2))) (.int 0)))))) aM a b p7 p9 p8 c d au hm _ _ rfl rfl e
 simp only[aa]at *;grind
def aAe:=fb GK (cmp .lss (fn 7 (pr (fn 9 (pr (fn 1 (pr X0 (.int 32))) (.int 2))) (.ar .add .i64 cf (.int 1)))) (fn 7 (pr (fn 9 (pr (fn 1 (pr X0 (.int 32))) (.int 2))) cf)))<|ag fun F p0 p1 p2=>by
 have:=ap p0
 simp only[aa,ab]at *
 obtain⟨a,b,c⟩:=ae (E.I F cf+1)
 omega
def aAf:=fb GK (.not (cmp .lss (fn 7 (pr (fn 9 (pr (fn 1 (pr X0 (.int 32))) (.int 2))) (.ar .add .i64 cf (.int 1)))) (.int 0)))<|ag fun F p0 p1 p2=>by
 simp only[aa,ab]at *
 obtain⟨a,b,c⟩:=ae (E.I F cf+1)
 omega
def cr:List Fa:=[ay7,Yd,azo,azz,azK,azS,azT,azU,azV,Zk,YT,Yh,azW,azX,azY,Yi,azZ,Yj,Yk,az0,az1,az2,az3,az4,Yl,az5,az6,az7,az8,az9,aAa,Ym,aAb,aAc,aAd,aAe,aAf]
theorem a2K:aI Tryz.prog (aX (a1M)):=sc cr (aVL) alF ([]) (by kernel_rfl) (by kernel_rfl)
def alG:Nl:=nc a2K alF
def aAg:=fb [X7] cj<|aj fun F p0=>by
 have:=@cu F X0
 simp only[aa]at *;grind
def aAh:=fb [X8,X6,afa] cj<|ag fun F p0 p1 p2=>by
 have:=@cu F X0
 simp only[aa]at *;grind
def aAi:=fb [X8,X6,cA,cJ,afc] cj<|aw fun F p0 p1 p2 p3 p4=>by
 have:=@cu F X0
 simp only[aa]at *;grind
def aAj:=fb [X8,X6,cA,cJ,cN,cU,afe] cj<|bL fun F p0 p1 p2 p3 p4 p5 p6=>by
 have:=@cu F X0
 simp only[aa]at *;grind
def aAk:=fb [X8,X6,cA,cJ,cN,cU,cY,dc,afg] cj<|b8 fun F p0 p1 p2 p3 p4 p5 p6 p7 p8=>by
 have:=@cu F X0
 simp only[aa]at *;grind
def aAl:=fb [X9,(cmp .lss (.int 200) (fn 9 (pr (fn 1 (pr X0 (.int 30))) (.int 5))))] cj<|ai fun F p0 p1=>by
 have:=ap p0
 simp only[aa]at *;grind
def aAm:=fb [X9,X8,X6,cA,cJ,cN,cU,cY,dc,df,dp,afi] cj<|jV fun F p0 p1 p2 p3 p4 p5 p6 p7 p8 p9 ao au=>by
 have:=@cu F X0
 simp only[aa]at *;grind
def aAn:=fb [X9,X8,X6,cA,cJ,cN,cU,cY,dc,df,dp,dy,dA,dH,afl] cj<|CU fun F p0 p1 p2 p3 p4 p5 p6 p7 p8 p9 ao au az aE aM=>by
 have:=@cu F X0
 simp only[aa]at *;grind
def aAo:=fb [X9,X8,X6,cA,cJ,cN,cU,cY,dc,df,dp,dy,dA,dH,dR,afn] cj<|qk fun F p0 p1 p2 p3 p4 p5 p6 p7 p8 p9 ao au az aE aM aN=>by
 have:=@cu F X0
 simp only[aa]at *;grind
def aAp:=fb [X9,X8,X6,cA,cJ,cN,cU,cY,dc,df,dp,dy,dA,dH,dR,ez,afp] cj<|x7 fun F p0 p1 p2 p3 p4 p5 p6 p7 p8 p9 ao au az aE aM aN bb=>by
 have:=@cu F X0
 simp only[aa]at *;grind
def aAq:=fb [X9,X8,X6,cA,cJ,cN,cU,cY,dc,df,dp,dy,dA,dH,dR,ez,fv,afr] cj<|CV fun F p0 p1 p2 p3 p4 p5 p6 p7 p8 p9 ao au az aE aM aN bb bl=>by
 have:=@cu F X0
 simp only[aa]at *;grind
def aAr:=fb [X9,X8,X6,cA,cJ,cN,cU,cY,dc,df,dp,dy,dA,dH,dR,ez,fv,afs] cj<|CV fun F p0 p1 p2 p3 p4 p5 p6 p7 p8 p9 ao au az aE aM aN bb bl=>by
 have:=@cu F X0
 simp only[aa]at *;grind
def aAs:=fb [X9,X8,X6,cA,cJ,cN,cU,cY,dc,df,dp,dy,dA,dH,dR,ez,fv,fO,gb,afu] cj<|ako fun F p0 p1 p2 p3 p4 p5 p6 p7 p8 p9 ao au az aE aM aN bb bl bA bH=>by
 have:=@cu F X0
 simp only[aa]at *;grind
def aAt:=fb [X9,X8,X6,cA,cJ,cN,cU,cY,dc,df,dp,dy,dA,dH,dR,ez,fv,fO,gb,gm,afv] cj<|akp fun F p0 p1 p2 p3 p4 p5 p6 p7 p8 p9 ao au az aE aM aN bb bl bA bH bP=>by
 have:=@cu F X0
 simp only[aa]at *;grind
def aAu:=fb [X9,X8,X6,cA,cJ,cN,cU,cY,dc,df,dp,dy,dA,dH,dR,ez,fv,fO,gb,gm,afw] cj<|akp fun F p0 p1 p2 p3 p4 p5 p6 p7 p8 p9 ao au az aE aM aN bb bl bA bH bP=>by
 have:=@cu F X0
 simp only[aa]at *;grind
def aAv:=fb [X9,X8,X6,cA,cJ,cN,cU,cY,dc,df,dp,dy,dA,dH,dR,ez,fv,fO,gb,gm,ig,iQ,jd,afz] cj<|Ru fun F p0 p1 p2 p3 p4 p5 p6 p7 p8 p9 ao au az aE aM aN bb bl bA bH bP bZ cg cr=>by
 have:=@cu F X0
 simp only[aa]at *;grind
def aAw:=fb [X9,X8,X6,cA,cJ,cN,cU,cY,dc,df,dp,dy,dA,dH,dR,ez,fv,fO,gb,gm,ig,iQ,jd,kx,afB] cj<|akq fun F p0 p1 p2 p3 p4 p5 p6 p7 p8 p9 ao au az aE aM aN bb bl bA bH bP bZ cg cr cQ=>by
 have:=@cu F X0
 simp only[aa]at *;grind
def aAx:=fb [X9,X8,X6,cA,cJ,cN,cU,cY,dc,df,dp,dy,dA,dH,dR,ez,fv,fO,gb,gm,ig,iQ,jd,kx,my,afD] cj<|akr fun F p0 p1 p2 p3 p4 p5 p6 p7 p8 p9 ao au az aE aM aN bb bl bA bH bP bZ cg cr cQ di=>by
 have:=@cu F X0
 simp only[aa]at *;grind
def aAy:=fb [X9,X8,X6,cA,cJ,cN,cU,cY,dc,df,dp,dy,dA,dH,dR,ez,fv,fO,gb,gm,ig,iQ,jd,kx,my,pR,afF] cj<|aks fun F p0 p1 p2 p3 p4 p5 p6 p7 p8 p9 ao au az aE aM aN bb bl bA bH bP bZ cg cr cQ di dJ=>by
 have:=@cu F X0
 simp only[aa]at *;grind
def aAz:=fb [X9,X8,X6,cA,cJ,cN,cU,cY,dc,df,dp,dy,dA,dH,dR,ez,fv,fO,gb,gm,ig,iQ,jd,kx,my,pR,afG] cj<|aks fun F p0 p1 p2 p3 p4 p5 p6 p7 p8 p9 ao au az aE aM aN bb bl bA bH bP bZ cg cr cQ di dJ=>by
 have:=@cu F X0
 simp only[aa]at *;grind
def aAA:=fb [X9,X8,X6,cA,cJ,cN,cU,cY,dc,df,dp,dy,dA,dH,dR,ez,fv,fO,gb,gm,ig,iQ,jd,kx,my,pR,uc,w9,afI] cj<|aYC fun F p0 p1 p2 p3 p4 p5 p6 p7 p8 p9 ao au az aE aM aN bb bl bA bH bP bZ cg cr cQ di dJ eJ fK=>by
 have:=@cu F X0
 simp only[aa]at *;grind
def aAB:=fb [X9,X8,X6,cA,cJ,cN,cU,cY,dc,df,dp,dy,dA,dH,dR,ez,fv,fO,gb,gm,ig,iQ,jd,kx,my,pR,uc,w9,Bz,afJ] cj<|aYD fun F p0 p1 p2 p3 p4 p5 p6 p7 p8 p9 ao au az aE aM aN bb bl bA bH bP bZ cg cr cQ di dJ eJ fK gC=>by
 have:=@cu F X0
 simp only[aa]at *;grind
def aAC:=fb [OJ,(var 3)] xb<|ai fun F p0 p1=>by
 simp_all
def aAD:=fb [X9,X8,X6,cA,cJ,cN,cU,cY,dc,df,dp,dy,dA,dH,dR,ez,fv,fO,gb,gm,ig,iQ,jd,kx,my,pR,uc,w9,Bz,GD,BB,OK,GF,OJ,(.not (var 3))] cj<|aYG fun F p0 p1 p2 p3 p4 p5 p6 p7 p8 p9 ao au az aE aM aN bb bl bA bH bP bZ cg cr cQ di dJ eJ fK gC iV kX kb oF oG=>by
 have:=@cu F X0
 simp_all
def aAE:=fb [X9,X8,X6,cA,cJ,cN,cU,cY,dc,df,dp,dy,dA,dH,dR,ez,fv,fO,gb,gm,ig,iQ,jd,kx,my,pR,uc,w9,Bz,GD,BB,OK,(.not GF)] cj<|aYF fun F p0 p1 p2 p3 p4 p5 p6 p7 p8 p9 ao au az aE aM aN bb bl bA bH bP bZ cg cr cQ di dJ eJ fK gC iV kX kb=>by
 have:=@cu F X0
 simp_all
def aAF:=fb [X9,X8,X6,cA,cJ,cN,cU,cY,dc,df,dp,dy,dA,dH,dR,ez,fv,fO,gb,gm,ig,iQ,jd,kx,my,pR,uc,w9,Bz,GD,(.not BB)] cj<|aYE fun F p0 p1 p2 p3 p4 p5 p6 p7 p8 p9 ao au az aE aM aN bb bl bA bH bP bZ cg cr cQ di dJ eJ fK gC iV=>by
 have:=@cu F X0
 simp_all
def aAG:=fb [X9,X8,X6,cA,cJ,cN,cU,cY,dc,df,dp,dy,dA,dH,dR,ez,fv,fO,gb,gm,ig,iQ,jd,kx,my,pR,uc,afH] cj<|aYB fun F p0 p1 p2 p3 p4 p5 p6 p7 p8 p9 ao au az aE aM aN bb bl bA bH bP bZ cg cr cQ di dJ eJ=>by
 have:=@cu F X0
 simp only[aa]at *;grind
def aAH:=fb [X9,X8,X6,cA,cJ,cN,cU,cY,dc,df,dp,dy,dA,dH,dR,ez,fv,fO,gb,gm,ig,iQ,jd,kx,my,afE] cj<|akr fun F p0 p1 p2 p3 p4 p5 p6 p7 p8 p9 ao au az aE aM aN bb bl bA bH bP bZ cg cr cQ di=>by
 have:=@cu F X0
 simp only[aa]at *;grind
def aAI:=fb [X9,X8,X6,cA,cJ,cN,cU,cY,dc,df,dp,dy,dA,dH,dR,ez,fv,fO,gb,gm,ig,iQ,jd,kx,afC] cj<|akq fun F p0 p1 p2 p3 p4 p5 p6 p7 p8 p9 ao au az aE aM aN bb bl bA bH bP bZ cg cr cQ=>by
 have:=@cu F X0
 simp only[aa]at *;grind
def aAJ:=fb [X9,X8,X6,cA,cJ,cN,cU,cY,dc,df,dp,dy,dA,dH,dR,ez,fv,fO,gb,gm,ig,iQ,jd,afA] cj<|Ru fun F p0 p1 p2 p3 p4 p5 p6 p7 p8 p9 ao au az aE aM aN bb bl bA bH bP bZ cg cr=>by
 have:=@cu F X0
 simp only[aa]at *;grind
def aAK:=fb [X9,X8,X6,cA,cJ,cN,cU,cY,dc,df,dp,dy,dA,dH,dR,ez,fv,fO,gb,gm,ig,iQ,afy] cj<|aYA fun F p0 p1 p2 p3 p4 p5 p6 p7 p8 p9 ao au az aE aM aN bb bl bA bH bP bZ cg=>by
 have:=@cu F X0
 simp only[aa]at *;grind
def aAL:=fb [X9,X8,X6,cA,cJ,cN,cU,cY,dc,df,dp,dy,dA,dH,dR,ez,fv,fO,gb,gm,ig,iQ,jd,kx,my,pR,uc,w9,Bz,GD,BB,OK,GF,OJ,(var 3),(.iff (var 4) OL),(.not afl),(.not afn),(.not afp),(.not afr),(.not afv),(.not afz),(.not afB),(.not afD),(.not afF),(.not afJ)] (.iff (var 4) (fn 115 X0))<|aYI fun F p0 p1 p2 p3 p4 p5 p6 p7 p8 p9 ao au az aE aM aN bb bl bA bH bP bZ cg cr cQ di dJ eJ fK gC iV kX kb oF oG vu vv vw vz vA vB vC vD vE sa JD=>by
 have:=ap p0
 have:=@cu F X0
 simp only[aa]at *;grind
def aAM:=fb [X9,X8,X6,cA,cJ,cN,cU,cY,dc,df,dp,dy,dA,dH,dR,ez,fv,fO,gb,gm,ig,afx] cj<|aYz fun F p0 p1 p2 p3 p4 p5 p6 p7 p8 p9 ao au az aE aM aN bb bl bA bH bP bZ=>by
 have:=@cu F X0
 simp only[aa]at *;grind
def aAN:=fb [X9,X8,X6,cA,cJ,cN,cU,cY,dc,df,dp,dy,dA,dH,dR,ez,fv,fO,aft] cj<|IW fun F p0 p1 p2 p3 p4 p5 p6 p7 p8 p9 ao au az aE aM aN bb bl bA=>by
 have:=@cu F X0
 simp only[aa]at *;grind
def aAO:=fb [X9,X8,X6,cA,cJ,cN,cU,cY,dc,df,dp,dy,dA,dH,dR,ez,afq] cj<|x7 fun F p0 p1 p2 p3 p4 p5 p6 p7 p8 p9 ao au az aE aM aN bb=>by
 have:=@cu F X0
 simp only[aa]at *;grind
def aAP:=fb [X9,X8,X6,cA,cJ,cN,cU,cY,dc,df,dp,dy,dA,dH,dR,afo] cj<|qk fun F p0 p1 p2 p3 p4 p5 p6 p7 p8 p9 ao au az aE aM aN=>by
 have:=@cu F X0
 simp only[aa]at *;grind
def aAQ:=fb [X9,X8,X6,cA,cJ,cN,cU,cY,dc,df,dp,dy,dA,dH,afm] cj<|CU fun F p0 p1 p2 p3 p4 p5 p6 p7 p8 p9 ao au az aE aM=>by
 have:=@cu F X0
 simp only[aa]at *;grind
def aAR:=fb [X9,X8,X6,cA,cJ,cN,cU,cY,dc,df,dp,dy,dA,afk] cj<|u3 fun F p0 p1 p2 p3 p4 p5 p6 p7 p8 p9 ao au az aE=>by
 have:=@cu F X0
 simp only[aa]at *;grind
def aAS:=fb [X9,X8,X6,cA,cJ,cN,cU,cY,dc,df,dp,dy,afj] cj<|jk fun F p0 p1 p2 p3 p4 p5 p6 p7 p8 p9 ao au az=>by
 have:=@cu F X0
 simp only[aa]at *;grind
def aAT:=fb [X9,(cmp .lss (.int 200) (fn 9 (pr (fn 1 (pr X0 (.int 29))) (.int 5))))] cj<|ai fun F p0 p1=>by
 have:=ap p0
 simp only[aa]at *;grind
def aAU:=fb [X9,(cmp .lss (.int 500) (fn 9 (pr (fn 1 (pr X0 (.int 0))) (.int 12))))] cj<|ai fun F p0 p1=>by
 have:=ap p0
 simp only[aa]at *;grind
def aAV:=fb [X8,X6,cA,cJ,cN,cU,cY,dc,df,afh] cj<|fA fun F p0 p1 p2 p3 p4 p5 p6 p7 p8 p9=>by
 have:=@cu F X0
 simp only[aa]at *;grind
def aAW:=fb [X8,X6,cA,cJ,cN,cU,cY,aff] cj<|b7 fun F p0 p1 p2 p3 p4 p5 p6 p7=>by
 have:=@cu F X0
 simp only[aa]at *;grind
def aAX:=fb [X8,X6,cA,cJ,cN,afd] cj<|bq fun F p0 p1 p2 p3 p4 p5=>by
 have:=@cu F X0
 simp only[aa]at *;grind
def aAY:=fb [X8,X6,cA,afb] cj<|am fun F p0 p1 p2 p3=>by
 have:=@cu F X0
 simp only[aa]at *;grind
def aAZ:=fb [X8,X5] cj<|ai fun F p0 p1=>by
 have:=@cu F X0
 simp only[aa]at *;grind
def cQ:List Fa:=[aAg,aAh,aAi,aAj,aAk,aAl,aAm,aAn,aAo,aAp,aAq,aAr,aAs,aAt,aAu,aAv,aAw,aAx,aAy,aAz,aAA,aAB,aAC,aAD,aAE,aAF,aAG,aAH,aAI,aAJ,aAK,aAL,aAM,aAN,aAO,aAP,aAQ,aAR,aAS,aAT,aAU,aAV,aAW,aAX,aAY,aAZ]
theorem a2L:aI Tryz.prog (aX (spV)):=sc cQ ([]) alG ([]) (by kernel_rfl) (by kernel_rfl)
def alH:Nl:=nc a2L alG
end
end Go.Proofs.YtnnbmcfabojjjaaGreat.payPays
