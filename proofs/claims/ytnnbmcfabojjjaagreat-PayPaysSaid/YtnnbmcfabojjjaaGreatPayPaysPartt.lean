/-
  PayPays: contracts of functions, part 20.
-/
import Derived.Test.YtnnbmcfabojjjaaGreatPayPaysParts
namespace Go.Proofs.YtnnbmcfabojjjaaGreat.payPays
open Go.ChangeShapes Go.WideShapes Go.ChangeAt Go.RowKit
open Go.SX
open Go.SX.E (fn pr cmp var)
set_option linter.unusedVariables false
set_option linter.unusedSimpArgs false
set_option maxRecDepth 100000
noncomputable section
abbrev A6:E:=var 31
abbrev A7:E:=var 28
abbrev Bc:E:=var 47
abbrev Bj:E:=var 2
abbrev GA:E:=var 1
abbrev GC:E:=var 0
abbrev Bu:E:=var 48
abbrev nY:E:=var 5
abbrev pQ:E:=var 4
abbrev By:E:=var 49
abbrev nV:E:=var 8
abbrev pM:E:=var 7
abbrev A8:E:=var 50
abbrev nW:E:=var 11
abbrev pN:E:=var 10
abbrev A9:E:=var 51
abbrev nX:E:=var 14
abbrev pO:E:=var 13
abbrev Ba:E:=var 52
abbrev Bb:E:=var 17
abbrev pP:E:=var 16
abbrev Bd:E:=var 53
abbrev Be:E:=var 20
abbrev Gv:E:=var 19
abbrev Bf:E:=var 54
abbrev Bg:E:=var 23
abbrev Gw:E:=var 22
abbrev Bh:E:=var 55
abbrev Bi:E:=var 26
abbrev Gx:E:=var 25
abbrev Bl:E:=var 56
abbrev Bm:E:=var 29
abbrev Bn:E:=var 57
abbrev Bo:E:=var 32
abbrev Bp:E:=var 58
abbrev Bq:E:=var 35
abbrev Gy:E:=var 34
abbrev Br:E:=var 59
abbrev Bs:E:=var 38
abbrev Gz:E:=var 37
abbrev GB:E:=var 43
abbrev aSE:E:=pr Gz (.int 0)
abbrev aSF:E:=pr Gy aSE
abbrev aSG:E:=pr A6 aSF
abbrev aSH:E:=pr A7 aSG
abbrev aSI:E:=pr Gx aSH
abbrev aSJ:E:=pr Gw aSI
abbrev aSK:E:=pr Gv aSJ
abbrev aSL:E:=pr pP aSK
abbrev aSM:E:=pr pO aSL
abbrev aSN:E:=pr pN aSM
abbrev aSO:E:=pr pM aSN
abbrev aSP:E:=pr pQ aSO
abbrev aSQ:E:=pr GA aSP
abbrev aSR:E:=pr GC aSQ
abbrev aSS:E:=pr GB aSR
abbrev aST:E:=fn 221 aSS
abbrev aSU:=[aST]
abbrev ae7:List E:=(fn 116 GB)::aSU
abbrev Bt:E:=var 6
abbrev cq:E:=.bool false
abbrev Bv:E:=var 9
abbrev Bw:E:=var 12
abbrev Bx:E:=var 15
def aze:=fb [(fn 190 A6),(fn 190 A7)] (fn 116 (yX [(pr Bc Bj),(pr Bu nY),(pr By nV),(pr A8 nW),(pr A9 nX),(pr Ba Bb),(pr Bd Be),(pr Bf Bg),(pr Bh Bi),(pr Bl Bm),(pr Bn Bo),(pr Bp Bq),(pr Br Bs)] [GA,pQ,pM,pN,pO,pP,Gv,Gw,Gx,A7,A6,Gy,Gz] GC))<|ai fun F p0 p1=>by
 exact a4E (zs:=[(pr _ _),(pr _ _),(pr _ _),(pr _ _),(pr _ _),(pr _ _),(pr _ _),(pr _ _),(pr _ _),(pr _ _),(pr _ _),(pr _ _),(pr _ _)]) p1 p0
def azf:=fb ((fn 117 GB)::ae7) (fn 117 (yX [(pr Bc Bj),(pr Bu nY),(pr By nV),(pr A8 nW),(pr A9 nX),(pr Ba Bb),(pr Bd Be),(pr Bf Bg),(pr Bh Bi),(pr Bl Bm),(pr Bn Bo),(pr Bp Bq),(pr Br Bs)] [GA,pQ,pM,pN,pO,pP,Gv,Gw,Gx,A7,A6,Gy,Gz] GC))<|ag fun F p0 p1 p2=>by
 have h1:=apV [(pr Bc Bj),(pr Bu nY),(pr By nV),(pr A8 nW),(pr A9 nX),(pr Ba Bb),(pr Bd Be),(pr Bf Bg),(pr Bh Bi),(pr Bl Bm),(pr Bn Bo),(pr Bp Bq),(pr Br Bs)] p2 p1;exact a4F h1 p0
def azg:=fb ae7 (fn 189 (pr GB (yX [(pr Bc Bj),(pr Bu nY),(pr By nV),(pr A8 nW),(pr A9 nX),(pr Ba Bb),(pr Bd Be),(pr Bf Bg),(pr Bh Bi),(pr Bl Bm),(pr Bn Bo),(pr Bp Bq),(pr Br Bs)] [GA,pQ,pM,pN,pO,pP,Gv,Gw,Gx,A7,A6,Gy,Gz] GC)))<|ai fun F p0 p1=>by
 have h1:=apV [(pr Bc Bj),(pr Bu nY),(pr By nV),(pr A8 nW),(pr A9 nX),(pr Ba Bb),(pr Bd Be),(pr Bf Bg),(pr Bh Bi),(pr Bl Bm),(pr Bn Bo),(pr Bp Bq),(pr Br Bs)] p1 p0;exact h1
def p81:List Fa:=[dv,aze,azf,azg]
theorem a6X:aI Tryz.prog (aX (a1Q)):=sc p81 ([]) a6N ([]) (by kernel_rfl) (by kernel_rfl)
def a6U:Nl:=nc a6X a6N
def Yc:=fa ((fn 116 (dt [(fn 28 (pr (pr pQ (.int 0)) (fn 10 (.int 0)))),(.int 0),(.int 0),(.int 0),(.int 0),(.int 0),(fn 28 (pr (pr nY (.int 0)) (fn 10 (.int 0)))),(fn 28 (pr (pr Bt (.int 0)) (fn 10 (.int 0)))),(fn 28 (pr (pr pM (.int 0)) (fn 10 (.int 0)))),(fn 28 (pr (pr nV (.int 0)) (fn 10 (.int 0)))),cq,cq,cq,(.int 0),(.int 0),(.int 0),(.int 0),(.int 0),(.int 0),(.int 0),(fn 28 (pr (pr Bv (.int 0)) (fn 10 (.int 0)))),(fn 28 (pr (pr pN (.int 0)) (fn 10 (.int 0)))),(fn 28 (pr (pr nW (.int 0)) (fn 10 (.int 0)))),(fn 28 (pr (pr Bw (.int 0)) (fn 10 (.int 0)))),cq,cq,cq,(.int 0),(.int 0),(fn 28 (pr (pr pO (.int 0)) (fn 10 (.int 0)))),(fn 28 (pr (pr nX (.int 0)) (fn 10 (.int 0)))),(fn 28 (pr (pr Bx (.int 0)) (fn 10 (.int 0)))),(fn 28 (pr (pr pP (.int 0)) (fn 10 (.int 0)))),(.int 0),(.int 0),(.int 0),(.int 0),(.int 0)])))<|fun F=>by
 rfl
def Ye:=fa ((fn 117 (dt [(fn 28 (pr (pr pQ (.int 0)) (fn 10 (.int 0)))),(.int 0),(.int 0),(.int 0),(.int 0),(.int 0),(fn 28 (pr (pr nY (.int 0)) (fn 10 (.int 0)))),(fn 28 (pr (pr Bt (.int 0)) (fn 10 (.int 0)))),(fn 28 (pr (pr pM (.int 0)) (fn 10 (.int 0)))),(fn 28 (pr (pr nV (.int 0)) (fn 10 (.int 0)))),cq,cq,cq,(.int 0),(.int 0),(.int 0),(.int 0),(.int 0),(.int 0),(.int 0),(fn 28 (pr (pr Bv (.int 0)) (fn 10 (.int 0)))),(fn 28 (pr (pr pN (.int 0)) (fn 10 (.int 0)))),(fn 28 (pr (pr nW (.int 0)) (fn 10 (.int 0)))),(fn 28 (pr (pr Bw (.int 0)) (fn 10 (.int 0)))),cq,cq,cq,(.int 0),(.int 0),(fn 28 (pr (pr pO (.int 0)) (fn 10 (.int 0)))),(fn 28 (pr (pr nX (.int 0)) (fn 10 (.int 0)))),(fn 28 (pr (pr Bx (.int 0)) (fn 10 (.int 0)))),(fn 28 (pr (pr pP (.int 0)) (fn 10 (.int 0)))),(.int 0),(.int 0),(.int 0),(.int 0),(.int 0)])))<|fun F=>by
 have h1:=@a4G F ([(fn 28 (pr (pr pQ (.int 0)) (fn 10 (.int 0)))),(.int 0),(.int 0),(.int 0),(.int 0),(.int 0),(fn 28 (pr (pr nY (.int 0)) (fn 10 (.int 0)))),(fn 28 (pr (pr Bt (.int 0)) (fn 10 (.int 0)))),(fn 28 (pr (pr pM (.int 0)) (fn 10 (.int 0)))),(fn 28 (pr (pr nV (.int 0)) (fn 10 (.int 0)))),cq,cq,cq,(.int 0),(.int 0),(.int 0),(.int 0),(.int 0),(.int 0),(.int 0),(fn 28 (pr (pr Bv (.int 0)) (fn 10 (.int 0)))),(fn 28 (pr (pr pN (.int 0)) (fn 10 (.int 0)))),(fn 28 (pr (pr nW (.int 0)) (fn 10 (.int 0)))),(fn 28 (pr (pr Bw (.int 0)) (fn 10 (.int 0)))),cq,cq,cq,(.int 0),(.int 0),(fn 28 (pr (pr pO (.int 0)) (fn 10 (.int 0)))),(fn 28 (pr (pr nX (.int 0)) (fn 10 (.int 0)))),(fn 28 (pr (pr Bx (.int 0)) (fn 10 (.int 0)))),(fn 28 (pr (pr pP (.int 0)) (fn 10 (.int 0)))),(.int 0),(.int 0),(.int 0),(.int 0),(.int 0)]) rfl;exact h1
def Yf:=fa ((fn 189 (pr (dt [(fn 30 (.int 0)),(.int 0),(.int 0),(.int 0),(.int 0),(.int 0),(fn 30 (.int 0)),(fn 30 (.int 0)),(fn 30 (.int 0)),(fn 30 (.int 0)),cq,cq,cq,(.int 0),(.int 0),(.int 0),(.int 0),(.int 0),(.int 0),(.int 0),(fn 30 (.int 0)),(fn 30 (.int 0)),(fn 30 (.int 0)),(fn 30 (.int 0)),cq,cq,cq,(.int 0),(.int 0),(fn 30 (.int 0)),(fn 30 (.int 0)),(fn 30 (.int 0)),(fn 30 (.int 0)),(.int 0),(.int 0),(.int 0),(.int 0),(.int 0)]) (dt [(fn 28 (pr (pr pQ (.int 0)) (fn 10 (.int 0)))),(.int 0),(.int 0),(.int 0),(.int 0),(.int 0),(fn 28 (pr (pr nY (.int 0)) (fn 10 (.int 0)))),(fn 28 (pr (pr Bt (.int 0)) (fn 10 (.int 0)))),(fn 28 (pr (pr pM (.int 0)) (fn 10 (.int 0)))),(fn 28 (pr (pr nV (.int 0)) (fn 10 (.int 0)))),cq,cq,cq,(.int 0),(.int 0),(.int 0),(.int 0),(.int 0),(.int 0),(.int 0),(fn 28 (pr (pr Bv (.int 0)) (fn 10 (.int 0)))),(fn 28 (pr (pr pN (.int 0)) (fn 10 (.int 0)))),(fn 28 (pr (pr nW (.int 0)) (fn 10 (.int 0)))),(fn 28 (pr (pr Bw (.int 0)) (fn 10 (.int 0)))),cq,cq,cq,(.int 0),(.int 0),(fn 28 (pr (pr pO (.int 0)) (fn 10 (.int 0)))),(fn 28 (pr (pr nX (.int 0)) (fn 10 (.int 0)))),(fn 28 (pr (pr Bx (.int 0)) (fn 10 (.int 0)))),(fn 28 (pr (pr pP (.int 0)) (fn 10 (.int 0)))),(.int 0),(.int 0),(.int 0),(.int 0),(.int 0)]))))<|fun F=>by
 have h1:=@a5J F ([(fn 30 (.int 0)),(.int 0),(.int 0),(.int 0),(.int 0),(.int 0),(fn 30 (.int 0)),(fn 30 (.int 0)),(fn 30 (.int 0)),(fn 30 (.int 0)),cq,cq,cq,(.int 0),(.int 0),(.int 0),(.int 0),(.int 0),(.int 0),(.int 0),(fn 30 (.int 0)),(fn 30 (.int 0)),(fn 30 (.int 0)),(fn 30 (.int 0)),cq,cq,cq,(.int 0),(.int 0),(fn 30 (.int 0)),(fn 30 (.int 0)),(fn 30 (.int 0)),(fn 30 (.int 0)),(.int 0),(.int 0),(.int 0),(.int 0),(.int 0)]) ([(fn 28 (pr (pr pQ (.int 0)) (fn 10 (.int 0)))),(.int 0),(.int 0),(.int 0),(.int 0),(.int 0),(fn 28 (pr (pr nY (.int 0)) (fn 10 (.int 0)))),(fn 28 (pr (pr Bt (.int 0)) (fn 10 (.int 0)))),(fn 28 (pr (pr pM (.int 0)) (fn 10 (.int 0)))),(fn 28 (pr (pr nV (.int 0)) (fn 10 (.int 0)))),cq,cq,cq,(.int 0),(.int 0),(.int 0),(.int 0),(.int 0),(.int 0),(.int 0),(fn 28 (pr (pr Bv (.int 0)) (fn 10 (.int 0)))),(fn 28 (pr (pr pN (.int 0)) (fn 10 (.int 0)))),(fn 28 (pr (pr nW (.int 0)) (fn 10 (.int 0)))),(fn 28 (pr (pr Bw (.int 0)) (fn 10 (.int 0)))),cq,cq,cq,(.int 0),(.int 0),(fn 28 (pr (pr pO (.int 0)) (fn 10 (.int 0)))),(fn 28 (pr (pr nX (.int 0)) (fn 10 (.int 0)))),(fn 28 (pr (pr Bx (.int 0)) (fn 10 (.int 0)))),(fn 28 (pr (pr pP (.int 0)) (fn 10 (.int 0)))),(.int 0),(.int 0),(.int 0),(.int 0),(.int 0)]) rfl rfl rfl rfl rfl rfl;exact h1
def Yg:=fa ((fn 158 (pr (fn 10 (.int 0)) (.int 0))))<|fun F=>by
 rfl
def p82:List Fa:=[dv,Yc,Ye,Yf,Yg]
theorem a6Y:aI Tryz.prog (aX (aoA zNl)):=sc p82 ([]) a6N ([]) (by kernel_rfl) (by kernel_rfl)
def a6V:Nl:=nc a6Y a6U
def p83:List Fa:=[dv,Yc,Ye,Yf,Yg]
theorem a6Z:aI Tryz.prog (aX (aoA aqL)):=sc p83 ([]) a6N ([]) (by kernel_rfl) (by kernel_rfl)
def a6R:Nl:=nc a6Z a6V
end
end Go.Proofs.YtnnbmcfabojjjaaGreat.payPays
