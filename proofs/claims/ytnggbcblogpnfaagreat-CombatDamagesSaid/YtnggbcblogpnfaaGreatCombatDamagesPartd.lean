/-
  CombatDamages: contracts of functions, part 4.
-/
import Derived.Test.YtnggbcblogpnfaaGreatCombatDamagesPartc
namespace Go.Proofs.YtnggbcblogpnfaaGreat.combatDamages
open Go.ChangeShapes Go.WideShapes Go.ChangeAt Go.RowKit
open Go.SX
open Go.SX.E (fn pr cmp var)
set_option linter.unusedVariables false
set_option linter.unusedSimpArgs false
set_option maxRecDepth 100000
noncomputable section
def am:List Fa:=[]
theorem aGV:aV Tryz.prog (bz (aGE 4 5)):=sc am ([]) ab2 ([]) (by kernel_rfl) (by kernel_rfl)
def EI:Nl:=nc aGV ab2
end
end Go.Proofs.YtnggbcblogpnfaaGreat.combatDamages
