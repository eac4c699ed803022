/-
  CombatBlocks: contracts of functions, part 17.
-/
import Derived.Test.YtnggbcblogpnfaaGreatCombatBlocksPartp
namespace Go.Proofs.YtnggbcblogpnfaaGreat.combatBlocks
open Go.ChangeShapes Go.WideShapes Go.ChangeAt Go.RowKit
open Go.SX
open Go.SX.E (fn pr cmp var)
set_option linter.unusedVariables false
set_option linter.unusedSimpArgs false
set_option maxRecDepth 100000
noncomputable section
abbrev wc:E:=var 31
abbrev wd:E:=var 28
abbrev wk:E:=var 47
abbrev wu:E:=var 2
abbrev AJ:E:=var 1
abbrev AL:E:=var 0
abbrev wE:E:=var 48
abbrev lg:E:=var 5
abbrev mH:E:=var 4
abbrev wI:E:=var 49
abbrev k8:E:=var 8
abbrev mC:E:=var 7
abbrev wg:E:=var 50
abbrev k9:E:=var 11
abbrev mD:E:=var 10
abbrev wh:E:=var 51
abbrev lf:E:=var 14
abbrev mE:E:=var 13
abbrev wi:E:=var 52
abbrev wj:E:=var 17
abbrev mG:E:=var 16
abbrev wl:E:=var 53
abbrev wm:E:=var 20
abbrev AE:E:=var 19
abbrev wn:E:=var 54
abbrev wo:E:=var 23
abbrev AF:E:=var 22
abbrev wq:E:=var 55
abbrev wt:E:=var 26
abbrev AG:E:=var 25
abbrev wv:E:=var 56
abbrev ww:E:=var 29
abbrev wx:E:=var 57
abbrev wy:E:=var 32
abbrev wz:E:=var 58
abbrev wA:E:=var 35
abbrev AH:E:=var 34
abbrev wB:E:=var 59
abbrev wC:E:=var 38
abbrev AI:E:=var 37
abbrev AK:E:=var 43
abbrev aye:E:=pr AI (.int 0)
abbrev ayf:E:=pr AH aye
abbrev ayg:E:=pr wc ayf
abbrev ayh:E:=pr wd ayg
abbrev ayi:E:=pr AG ayh
abbrev ayj:E:=pr AF ayi
abbrev ayk:E:=pr AE ayj
abbrev ayl:E:=pr mG ayk
abbrev aym:E:=pr mE ayl
abbrev ayn:E:=pr mD aym
abbrev ayo:E:=pr mC ayn
abbrev ayp:E:=pr mH ayo
abbrev ayq:E:=pr AJ ayp
abbrev ayr:E:=pr AL ayq
abbrev ays:E:=pr AK ayr
abbrev ayt:E:=fn 221 ays
abbrev ayu:=[ayt]
abbrev S8:List E:=(fn 116 AK)::ayu
abbrev wD:E:=var 6
abbrev cn:E:=.bool false
abbrev wF:E:=var 9
abbrev wG:E:=var 12
abbrev wH:E:=var 15
def ajw:=fb [(fn 190 wc),(fn 190 wd)] (fn 116 (u6 [(pr wk wu),(pr wE lg),(pr wI k8),(pr wg k9),(pr wh lf),(pr wi wj),(pr wl wm),(pr wn wo),(pr wq wt),(pr wv ww),(pr wx wy),(pr wz wA),(pr wB wC)] [AJ,mH,mC,mD,mE,mG,AE,AF,AG,wd,wc,AH,AI] AL))<|am fun F p0 p1=>by
 exact aMj (zs:=[(pr _ _),(pr _ _),(pr _ _),(pr _ _),(pr _ _),(pr _ _),(pr _ _),(pr _ _),(pr _ _),(pr _ _),(pr _ _),(pr _ _),(pr _ _)]) p1 p0
def ajx:=fb ((fn 117 AK)::S8) (fn 117 (u6 [(pr wk wu),(pr wE lg),(pr wI k8),(pr wg k9),(pr wh lf),(pr wi wj),(pr wl wm),(pr wn wo),(pr wq wt),(pr wv ww),(pr wx wy),(pr wz wA),(pr wB wC)] [AJ,mH,mC,mD,mE,mG,AE,AF,AG,wd,wc,AH,AI] AL))<|aj fun F p0 p1 p2=>by
 have h1:=ag2 [(pr wk wu),(pr wE lg),(pr wI k8),(pr wg k9),(pr wh lf),(pr wi wj),(pr wl wm),(pr wn wo),(pr wq wt),(pr wv ww),(pr wx wy),(pr wz wA),(pr wB wC)] p2 p1;exact aMk h1 p0
def ajy:=fb S8 (fn 189 (pr AK (u6 [(pr wk wu),(pr wE lg),(pr wI k8),(pr wg k9),(pr wh lf),(pr wi wj),(pr wl wm),(pr wn wo),(pr wq wt),(pr wv ww),(pr wx wy),(pr wz wA),(pr wB wC)] [AJ,mH,mC,mD,mE,mG,AE,AF,AG,wd,wc,AH,AI] AL)))<|am fun F p0 p1=>by
 have h1:=ag2 [(pr wk wu),(pr wE lg),(pr wI k8),(pr wg k9),(pr wh lf),(pr wi wj),(pr wl wm),(pr wn wo),(pr wq wt),(pr wv ww),(pr wx wy),(pr wz wA),(pr wB wC)] p1 p0;exact h1
def p66:List Fa:=[df,ajw,ajx,ajy]
theorem aLD:aL Tryz.prog (bh (aKf)):=sc p66 ([]) ES ([]) (by kernel_rfl) (by kernel_rfl)
def aID:Nl:=nc aLD ES
def PF:=fa ((fn 116 (cL [(fn 28 (pr (pr mH (.int 0)) (fn 10 (.int 0)))),(.int 0),(.int 0),(.int 0),(.int 0),(.int 0),(fn 28 (pr (pr lg (.int 0)) (fn 10 (.int 0)))),(fn 28 (pr (pr wD (.int 0)) (fn 10 (.int 0)))),(fn 28 (pr (pr mC (.int 0)) (fn 10 (.int 0)))),(fn 28 (pr (pr k8 (.int 0)) (fn 10 (.int 0)))),cn,cn,cn,(.int 0),(.int 0),(.int 0),(.int 0),(.int 0),(.int 0),(.int 0),(fn 28 (pr (pr wF (.int 0)) (fn 10 (.int 0)))),(fn 28 (pr (pr mD (.int 0)) (fn 10 (.int 0)))),(fn 28 (pr (pr k9 (.int 0)) (fn 10 (.int 0)))),(fn 28 (pr (pr wG (.int 0)) (fn 10 (.int 0)))),cn,cn,cn,(.int 0),(.int 0),(fn 28 (pr (pr mE (.int 0)) (fn 10 (.int 0)))),(fn 28 (pr (pr lf (.int 0)) (fn 10 (.int 0)))),(fn 28 (pr (pr wH (.int 0)) (fn 10 (.int 0)))),(fn 28 (pr (pr mG (.int 0)) (fn 10 (.int 0)))),(.int 0),(.int 0),(.int 0),(.int 0),(.int 0)])))<|fun F=>by
 rfl
def PG:=fa ((fn 117 (cL [(fn 28 (pr (pr mH (.int 0)) (fn 10 (.int 0)))),(.int 0),(.int 0),(.int 0),(.int 0),(.int 0),(fn 28 (pr (pr lg (.int 0)) (fn 10 (.int 0)))),(fn 28 (pr (pr wD (.int 0)) (fn 10 (.int 0)))),(fn 28 (pr (pr mC (.int 0)) (fn 10 (.int 0)))),(fn 28 (pr (pr k8 (.int 0)) (fn 10 (.int 0)))),cn,cn,cn,(.int 0),(.int 0),(.int 0),(.int 0),(.int 0),(.int 0),(.int 0),(fn 28 (pr (pr wF (.int 0)) (fn 10 (.int 0)))),(fn 28 (pr (pr mD (.int 0)) (fn 10 (.int 0)))),(fn 28 (pr (pr k9 (.int 0)) (fn 10 (.int 0)))),(fn 28 (pr (pr wG (.int 0)) (fn 10 (.int 0)))),cn,cn,cn,(.int 0),(.int 0),(fn 28 (pr (pr mE (.int 0)) (fn 10 (.int 0)))),(fn 28 (pr (pr lf (.int 0)) (fn 10 (.int 0)))),(fn 28 (pr (pr wH (.int 0)) (fn 10 (.int 0)))),(fn 28 (pr (pr mG (.int 0)) (fn 10 (.int 0)))),(.int 0),(.int 0),(.int 0),(.int 0),(.int 0)])))<|fun F=>by
 have h1:=@aMn F ([(fn 28 (pr (pr mH (.int 0)) (fn 10 (.int 0)))),(.int 0),(.int 0),(.int 0),(.int 0),(.int 0),(fn 28 (pr (pr lg (.int 0)) (fn 10 (.int 0)))),(fn 28 (pr (pr wD (.int 0)) (fn 10 (.int 0)))),(fn 28 (pr (pr mC (.int 0)) (fn 10 (.int 0)))),(fn 28 (pr (pr k8 (.int 0)) (fn 10 (.int 0)))),cn,cn,cn,(.int 0),(.int 0),(.int 0),(.int 0),(.int 0),(.int 0),(.int 0),(fn 28 (pr (pr wF (.int 0)) (fn 10 (.int 0)))),(fn 28 (pr (pr mD (.int 0)) (fn 10 (.int 0)))),(fn 28 (pr (pr k9 (.int 0)) (fn 10 (.int 0)))),(fn 28 (pr (pr wG (.int 0)) (fn 10 (.int 0)))),cn,cn,cn,(.int 0),(.int 0),(fn 28 (pr (pr mE (.int 0)) (fn 10 (.int 0)))),(fn 28 (pr (pr lf (.int 0)) (fn 10 (.int 0)))),(fn 28 (pr (pr wH (.int 0)) (fn 10 (.int 0)))),(fn 28 (pr (pr mG (.int 0)) (fn 10 (.int 0)))),(.int 0),(.int 0),(.int 0),(.int 0),(.int 0)]) rfl;exact h1
def PH:=fa ((fn 189 (pr (cL [(fn 30 (.int 0)),(.int 0),(.int 0),(.int 0),(.int 0),(.int 0),(fn 30 (.int 0)),(fn 30 (.int 0)),(fn 30 (.int 0)),(fn 30 (.int 0)),cn,cn,cn,(.int 0),(.int 0),(.int 0),(.int 0),(.int 0),(.int 0),(.int 0),(fn 30 (.int 0)),(fn 30 (.int 0)),(fn 30 (.int 0)),(fn 30 (.int 0)),cn,cn,cn,(.int 0),(.int 0),(fn 30 (.int 0)),(fn 30 (.int 0)),(fn 30 (.int 0)),(fn 30 (.int 0)),(.int 0),(.int 0),(.int 0),(.int 0),(.int 0)]) (cL [(fn 28 (pr (pr mH (.int 0)) (fn 10 (.int 0)))),(.int 0),(.int 0),(.int 0),(.int 0),(.int 0),(fn 28 (pr (pr lg (.int 0)) (fn 10 (.int 0)))),(fn 28 (pr (pr wD (.int 0)) (fn 10 (.int 0)))),(fn 28 (pr (pr mC (.int 0)) (fn 10 (.int 0)))),(fn 28 (pr (pr k8 (.int 0)) (fn 10 (.int 0)))),cn,cn,cn,(.int 0),(.int 0),(.int 0),(.int 0),(.int 0),(.int 0),(.int 0),(fn 28 (pr (pr wF (.int 0)) (fn 10 (.int 0)))),(fn 28 (pr (pr mD (.int 0)) (fn 10 (.int 0)))),(fn 28 (pr (pr k9 (.int 0)) (fn 10 (.int 0)))),(fn 28 (pr (pr wG (.int 0)) (fn 10 (.int 0)))),cn,cn,cn,(.int 0),(.int 0),(fn 28 (pr (pr mE (.int 0)) (fn 10 (.int 0)))),(fn 28 (pr (pr lf (.int 0)) (fn 10 (.int 0)))),(fn 28 (pr (pr wH (.int 0)) (fn 10 (.int 0)))),(fn 28 (pr (pr mG (.int 0)) (fn 10 (.int 0)))),(.int 0),(.int 0),(.int 0),(.int 0),(.int 0)]))))<|fun F=>by
 have h1:=@aMQ F ([(fn 30 (.int 0)),(.int 0),(.int 0),(.int 0),(.int 0),(.int 0),(fn 30 (.int 0)),(fn 30 (.int 0)),(fn 30 (.int 0)),(fn 30 (.int 0)),cn,cn,cn,(.int 0),(.int 0),(.int 0),(.int 0),(.int 0),(.int 0),(.int 0),(fn 30 (.int 0)),(fn 30 (.int 0)),(fn 30 (.int 0)),(fn 30 (.int 0)),cn,cn,cn,(.int 0),(.int 0),(fn 30 (.int 0)),(fn 30 (.int 0)),(fn 30 (.int 0)),(fn 30 (.int 0)),(.int 0),(.int 0),(.int 0),(.int 0),(.int 0)]) ([(fn 28 (pr (pr mH (.int 0)) (fn 10 (.int 0)))),(.int 0),(.int 0),(.int 0),(.int 0),(.int 0),(fn 28 (pr (pr lg (.int 0)) (fn 10 (.int 0)))),(fn 28 (pr (pr wD (.int 0)) (fn 10 (.int 0)))),(fn 28 (pr (pr mC (.int 0)) (fn 10 (.int 0)))),(fn 28 (pr (pr k8 (.int 0)) (fn 10 (.int 0)))),cn,cn,cn,(.int 0),(.int 0),(.int 0),(.int 0),(.int 0),(.int 0),(.int 0),(fn 28 (pr (pr wF (.int 0)) (fn 10 (.int 0)))),(fn 28 (pr (pr mD (.int 0)) (fn 10 (.int 0)))),(fn 28 (pr (pr k9 (.int 0)) (fn 10 (.int 0)))),(fn 28 (pr (pr wG (.int 0)) (fn 10 (.int 0)))),cn,cn,cn,(.int 0),(.int 0),(fn 28 (pr (pr mE (.int 0)) (fn 10 (.int 0)))),(fn 28 (pr (pr lf (.int 0)) (fn 10 (.int 0)))),(fn 28 (pr (pr wH (.int 0)) (fn 10 (.int 0)))),(fn 28 (pr (pr mG (.int 0)) (fn 10 (.int 0)))),(.int 0),(.int 0),(.int 0),(.int 0),(.int 0)]) rfl rfl rfl rfl rfl rfl;exact h1
def PI:=fa ((fn 158 (pr (fn 10 (.int 0)) (.int 0))))<|fun F=>by
 rfl
def p67:List Fa:=[df,PF,PG,PH,PI]
theorem aLE:aL Tryz.prog (bh (agt zNl)):=sc p67 ([]) ES ([]) (by kernel_rfl) (by kernel_rfl)
def aIE:Nl:=nc aLE aID
def p68:List Fa:=[df,PF,PG,PH,PI]
theorem aLF:aL Tryz.prog (bh (agt ah6)):=sc p68 ([]) ES ([]) (by kernel_rfl) (by kernel_rfl)
def aeu:Nl:=nc aLF aIE
end
end Go.Proofs.YtnggbcblogpnfaaGreat.combatBlocks
