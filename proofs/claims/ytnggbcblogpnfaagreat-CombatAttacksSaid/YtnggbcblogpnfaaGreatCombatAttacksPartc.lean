/-
  CombatAttacks: contracts of functions, part 3.
-/
import Derived.Test.YtnggbcblogpnfaaGreatCombatAttacksPartb
namespace Go.Proofs.YtnggbcblogpnfaaGreat.combatAttacks
open Go.ChangeShapes Go.WideShapes Go.ChangeAt Go.RowKit
open Go.SX
open Go.SX.E (fn pr cmp var)
set_option linter.unusedVariables false
set_option linter.unusedSimpArgs false
set_option maxRecDepth 100000
noncomputable section
def p7:List Fa:=[]
theorem aJI:aR Tryz.prog (bj (afm 3 4 2)):=sc p7 ([]) adp ([]) (by kernel_rfl) (by kernel_rfl)
def adq:Nl:=nc aJI adp
def p8:List Fa:=[]
theorem aJJ:aR Tryz.prog (bj (aIr 3 4 4 3)):=sc p8 ([]) adq ([]) (by kernel_rfl) (by kernel_rfl)
def ads:Nl:=nc aJJ adq
def p9:List Fa:=[]
theorem aJK:aR Tryz.prog (bj (afm 4 5 3)):=sc p9 ([]) ads ([]) (by kernel_rfl) (by kernel_rfl)
def acx:Nl:=nc aJK ads
end
end Go.Proofs.YtnggbcblogpnfaaGreat.combatAttacks
