/-
  CombatAttacks: contracts of functions, part 16.
-/
import Derived.Test.YtnggbcblogpnfaaGreatCombatAttacksParto
namespace Go.Proofs.YtnggbcblogpnfaaGreat.combatAttacks
open Go.ChangeShapes Go.WideShapes Go.ChangeAt Go.RowKit
open Go.SX
open Go.SX.E (fn pr cmp var)
set_option linter.unusedVariables false
set_option linter.unusedSimpArgs false
set_option maxRecDepth 100000
noncomputable section
abbrev wK:E:=var 31
abbrev wL:E:=var 28
abbrev wQ:E:=var 47
abbrev wX:E:=var 2
abbrev B9:E:=var 1
abbrev Cb:E:=var 0
abbrev xa:E:=var 48
abbrev lf:E:=var 5
abbrev mJ:E:=var 4
abbrev xe:E:=var 49
abbrev kY:E:=var 8
abbrev mE:E:=var 7
abbrev wM:E:=var 50
abbrev kZ:E:=var 11
abbrev mG:E:=var 10
abbrev wN:E:=var 51
abbrev k9:E:=var 14
abbrev mH:E:=var 13
abbrev wO:E:=var 52
abbrev wP:E:=var 17
abbrev mI:E:=var 16
abbrev wR:E:=var 53
abbrev wS:E:=var 20
abbrev B4:E:=var 19
abbrev wT:E:=var 54
abbrev wU:E:=var 23
abbrev B5:E:=var 22
abbrev wV:E:=var 55
abbrev wW:E:=var 26
abbrev B6:E:=var 25
abbrev wY:E:=var 56
abbrev wZ:E:=var 29
abbrev w3:E:=var 57
abbrev w4:E:=var 32
abbrev w5:E:=var 58
abbrev w6:E:=var 35
abbrev B7:E:=var 34
abbrev w7:E:=var 59
abbrev w8:E:=var 38
abbrev B8:E:=var 37
abbrev Ca:E:=var 43
abbrev aCF:E:=pr B8 (.int 0)
abbrev aCG:E:=pr B7 aCF
abbrev aCH:E:=pr wK aCG
abbrev aCI:E:=pr wL aCH
abbrev aCJ:E:=pr B6 aCI
abbrev aCK:E:=pr B5 aCJ
abbrev aCL:E:=pr B4 aCK
abbrev aCM:E:=pr mI aCL
abbrev aCN:E:=pr mH aCM
abbrev aCO:E:=pr mG aCN
abbrev aCP:E:=pr mE aCO
abbrev aCQ:E:=pr mJ aCP
abbrev aCR:E:=pr B9 aCQ
abbrev aCS:E:=pr Cb aCR
abbrev aCT:E:=pr Ca aCS
abbrev aCU:E:=fn 221 aCT
abbrev aCV:=[aCU]
abbrev Y1:List E:=(fn 116 Ca)::aCV
abbrev w9:E:=var 6
abbrev ci:E:=.bool false
abbrev xb:E:=var 9
abbrev xc:E:=var 12
abbrev xd:E:=var 15
def aha:=fb [(fn 190 wK),(fn 190 wL)] (fn 116 (uI [(pr wQ wX),(pr xa lf),(pr xe kY),(pr wM kZ),(pr wN k9),(pr wO wP),(pr wR wS),(pr wT wU),(pr wV wW),(pr wY wZ),(pr w3 w4),(pr w5 w6),(pr w7 w8)] [B9,mJ,mE,mG,mH,mI,B4,B5,B6,wL,wK,B7,B8] Cb))<|ap fun F p0 p1=>by
 exact aKk (zs:=[(pr _ _),(pr _ _),(pr _ _),(pr _ _),(pr _ _),(pr _ _),(pr _ _),(pr _ _),(pr _ _),(pr _ _),(pr _ _),(pr _ _),(pr _ _)]) p1 p0
def ahb:=fb ((fn 117 Ca)::Y1) (fn 117 (uI [(pr wQ wX),(pr xa lf),(pr xe kY),(pr wM kZ),(pr wN k9),(pr wO wP),(pr wR wS),(pr wT wU),(pr wV wW),(pr wY wZ),(pr w3 w4),(pr w5 w6),(pr w7 w8)] [B9,mJ,mE,mG,mH,mI,B4,B5,B6,wL,wK,B7,B8] Cb))<|am fun F p0 p1 p2=>by
 have h1:=afS [(pr wQ wX),(pr xa lf),(pr xe kY),(pr wM kZ),(pr wN k9),(pr wO wP),(pr wR wS),(pr wT wU),(pr wV wW),(pr wY wZ),(pr w3 w4),(pr w5 w6),(pr w7 w8)] p2 p1;exact aKl h1 p0
def ahc:=fb Y1 (fn 189 (pr Ca (uI [(pr wQ wX),(pr xa lf),(pr xe kY),(pr wM kZ),(pr wN k9),(pr wO wP),(pr wR wS),(pr wT wU),(pr wV wW),(pr wY wZ),(pr w3 w4),(pr w5 w6),(pr w7 w8)] [B9,mJ,mE,mG,mH,mI,B4,B5,B6,wL,wK,B7,B8] Cb)))<|ap fun F p0 p1=>by
 have h1:=afS [(pr wQ wX),(pr xa lf),(pr xe kY),(pr wM kZ),(pr wN k9),(pr wO wP),(pr wR wS),(pr wT wU),(pr wV wW),(pr wY wZ),(pr w3 w4),(pr w5 w6),(pr w7 w8)] p1 p0;exact h1
def p63:List Fa:=[cY,aha,ahb,ahc]
theorem aJE:aR Tryz.prog (bj (aIi)):=sc p63 ([]) Eu ([]) (by kernel_rfl) (by kernel_rfl)
def aGH:Nl:=nc aJE Eu
def Pg:=fa ((fn 116 (cr [(fn 28 (pr (pr mJ (.int 0)) (fn 10 (.int 0)))),(.int 0),(.int 0),(.int 0),(.int 0),(.int 0),(fn 28 (pr (pr lf (.int 0)) (fn 10 (.int 0)))),(fn 28 (pr (pr w9 (.int 0)) (fn 10 (.int 0)))),(fn 28 (pr (pr mE (.int 0)) (fn 10 (.int 0)))),(fn 28 (pr (pr kY (.int 0)) (fn 10 (.int 0)))),ci,ci,ci,(.int 0),(.int 0),(.int 0),(.int 0),(.int 0),(.int 0),(.int 0),(fn 28 (pr (pr xb (.int 0)) (fn 10 (.int 0)))),(fn 28 (pr (pr mG (.int 0)) (fn 10 (.int 0)))),(fn 28 (pr (pr kZ (.int 0)) (fn 10 (.int 0)))),(fn 28 (pr (pr xc (.int 0)) (fn 10 (.int 0)))),ci,ci,ci,(.int 0),(.int 0),(fn 28 (pr (pr mH (.int 0)) (fn 10 (.int 0)))),(fn 28 (pr (pr k9 (.int 0)) (fn 10 (.int 0)))),(fn 28 (pr (pr xd (.int 0)) (fn 10 (.int 0)))),(fn 28 (pr (pr mI (.int 0)) (fn 10 (.int 0)))),(.int 0),(.int 0),(.int 0),(.int 0),(.int 0)])))<|fun F=>by
 rfl
def Ph:=fa ((fn 117 (cr [(fn 28 (pr (pr mJ (.int 0)) (fn 10 (.int 0)))),(.int 0),(.int 0),(.int 0),(.int 0),(.int 0),(fn 28 (pr (pr lf (.int 0)) (fn 10 (.int 0)))),(fn 28 (pr (pr w9 (.int 0)) (fn 10 (.int 0)))),(fn 28 (pr (pr mE (.int 0)) (fn 10 (.int 0)))),(fn 28 (pr (pr kY (.int 0)) (fn 10 (.int 0)))),ci,ci,ci,(.int 0),(.int 0),(.int 0),(.int 0),(.int 0),(.int 0),(.int 0),(fn 28 (pr (pr xb (.int 0)) (fn 10 (.int 0)))),(fn 28 (pr (pr mG (.int 0)) (fn 10 (.int 0)))),(fn 28 (pr (pr kZ (.int 0)) (fn 10 (.int 0)))),(fn 28 (pr (pr xc (.int 0)) (fn 10 (.int 0)))),ci,ci,ci,(.int 0),(.int 0),(fn 28 (pr (pr mH (.int 0)) (fn 10 (.int 0)))),(fn 28 (pr (pr k9 (.int 0)) (fn 10 (.int 0)))),(fn 28 (pr (pr xd (.int 0)) (fn 10 (.int 0)))),(fn 28 (pr (pr mI (.int 0)) (fn 10 (.int 0)))),(.int 0),(.int 0),(.int 0),(.int 0),(.int 0)])))<|fun F=>by
 have h1:=@aKn F ([(fn 28 (pr (pr mJ (.int 0)) (fn 10 (.int 0)))),(.int 0),(.int 0),(.int 0),(.int 0),(.int 0),(fn 28 (pr (pr lf (.int 0)) (fn 10 (.int 0)))),(fn 28 (pr (pr w9 (.int 0)) (fn 10 (.int 0)))),(fn 28 (pr (pr mE (.int 0)) (fn 10 (.int 0)))),(fn 28 (pr (pr kY (.int 0)) (fn 10 (.int 0)))),ci,ci,ci,(.int 0),(.int 0),(.int 0),(.int 0),(.int 0),(.int 0),(.int 0),(fn 28 (pr (pr xb (.int 0)) (fn 10 (.int 0)))),(fn 28 (pr (pr mG (.int 0)) (fn 10 (.int 0)))),(fn 28 (pr (pr kZ (.int 0)) (fn 10 (.int 0)))),(fn 28 (pr (pr xc (.int 0)) (fn 10 (.int 0)))),ci,ci,ci,(.int 0),(.int 0),(fn 28 (pr (pr mH (.int 0)) (fn 10 (.int 0)))),(fn 28 (pr (pr k9 (.int 0)) (fn 10 (.int 0)))),(fn 28 (pr (pr xd (.int 0)) (fn 10 (.int 0)))),(fn 28 (pr (pr mI (.int 0)) (fn 10 (.int 0)))),(.int 0),(.int 0),(.int 0),(.int 0),(.int 0)]) rfl;exact h1
def Pi:=fa ((fn 189 (pr (cr [(fn 30 (.int 0)),(.int 0),(.int 0),(.int 0),(.int 0),(.int 0),(fn 30 (.int 0)),(fn 30 (.int 0)),(fn 30 (.int 0)),(fn 30 (.int 0)),ci,ci,ci,(.int 0),(.int 0),(.int 0),(.int 0),(.int 0),(.int 0),(.int 0),(fn 30 (.int 0)),(fn 30 (.int 0)),(fn 30 (.int 0)),(fn 30 (.int 0)),ci,ci,ci,(.int 0),(.int 0),(fn 30 (.int 0)),(fn 30 (.int 0)),(fn 30 (.int 0)),(fn 30 (.int 0)),(.int 0),(.int 0),(.int 0),(.int 0),(.int 0)]) (cr [(fn 28 (pr (pr mJ (.int 0)) (fn 10 (.int 0)))),(.int 0),(.int 0),(.int 0),(.int 0),(.int 0),(fn 28 (pr (pr lf (.int 0)) (fn 10 (.int 0)))),(fn 28 (pr (pr w9 (.int 0)) (fn 10 (.int 0)))),(fn 28 (pr (pr mE (.int 0)) (fn 10 (.int 0)))),(fn 28 (pr (pr kY (.int 0)) (fn 10 (.int 0)))),ci,ci,ci,(.int 0),(.int 0),(.int 0),(.int 0),(.int 0),(.int 0),(.int 0),(fn 28 (pr (pr xb (.int 0)) (fn 10 (.int 0)))),(fn 28 (pr (pr mG (.int 0)) (fn 10 (.int 0)))),(fn 28 (pr (pr kZ (.int 0)) (fn 10 (.int 0)))),(fn 28 (pr (pr xc (.int 0)) (fn 10 (.int 0)))),ci,ci,ci,(.int 0),(.int 0),(fn 28 (pr (pr mH (.int 0)) (fn 10 (.int 0)))),(fn 28 (pr (pr k9 (.int 0)) (fn 10 (.int 0)))),(fn 28 (pr (pr xd (.int 0)) (fn 10 (.int 0)))),(fn 28 (pr (pr mI (.int 0)) (fn 10 (.int 0)))),(.int 0),(.int 0),(.int 0),(.int 0),(.int 0)]))))<|fun F=>by
 have h1:=@aKP F ([(fn 30 (.int 0)),(.int 0),(.int 0),(.int 0),(.int 0),(.int 0),(fn 30 (.int 0)),(fn 30 (.int 0)),(fn 30 (.int 0)),(fn 30 (.int 0)),ci,ci,ci,(.int 0),(.int 0),(.int 0),(.int 0),(.int 0),(.int 0),(.int 0),(fn 30 (.int 0)),(fn 30 (.int 0)),(fn 30 (.int 0)),(fn 30 (.int 0)),ci,ci,ci,(.int 0),(.int 0),(fn 30 (.int 0)),(fn 30 (.int 0)),(fn 30 (.int 0)),(fn 30 (.int 0)),(.int 0),(.int 0),(.int 0),(.int 0),(.int 0)]) ([(fn 28 (pr (pr mJ (.int 0)) (fn 10 (.int 0)))),(.int 0),(.int 0),(.int 0),(.int 0),(.int 0),(fn 28 (pr (pr lf (.int 0)) (fn 10 (.int 0)))),(fn 28 (pr (pr w9 (.int 0)) (fn 10 (.int 0)))),(fn 28 (pr (pr mE (.int 0)) (fn 10 (.int 0)))),(fn 28 (pr (pr kY (.int 0)) (fn 10 (.int 0)))),ci,ci,ci,(.int 0),(.int 0),(.int 0),(.int 0),(.int 0),(.int 0),(.int 0),(fn 28 (pr (pr xb (.int 0)) (fn 10 (.int 0)))),(fn 28 (pr (pr mG (.int 0)) (fn 10 (.int 0)))),(fn 28 (pr (pr kZ (.int 0)) (fn 10 (.int 0)))),(fn 28 (pr (pr xc (.int 0)) (fn 10 (.int 0)))),ci,ci,ci,(.int 0),(.int 0),(fn 28 (pr (pr mH (.int 0)) (fn 10 (.int 0)))),(fn 28 (pr (pr k9 (.int 0)) (fn 10 (.int 0)))),(fn 28 (pr (pr xd (.int 0)) (fn 10 (.int 0)))),(fn 28 (pr (pr mI (.int 0)) (fn 10 (.int 0)))),(.int 0),(.int 0),(.int 0),(.int 0),(.int 0)]) rfl rfl rfl rfl rfl rfl;exact h1
def Pj:=fa ((fn 158 (pr (fn 10 (.int 0)) (.int 0))))<|fun F=>by
 rfl
def p64:List Fa:=[cY,Pg,Ph,Pi,Pj]
theorem aJF:aR Tryz.prog (bj (afj zNl)):=sc p64 ([]) Eu ([]) (by kernel_rfl) (by kernel_rfl)
def aGI:Nl:=nc aJF aGH
def p65:List Fa:=[cY,Pg,Ph,Pi,Pj]
theorem aJG:aR Tryz.prog (bj (afj agI)):=sc p65 ([]) Eu ([]) (by kernel_rfl) (by kernel_rfl)
def ado:Nl:=nc aJG aGI
end
end Go.Proofs.YtnggbcblogpnfaaGreat.combatAttacks
