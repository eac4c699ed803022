/-
  CombatAttacks: contracts of functions, part 4.
-/
import Derived.Test.YtnggbcblogpnfaaGreatCombatAttacksPartc
namespace Go.Proofs.YtnggbcblogpnfaaGreat.combatAttacks
open Go.ChangeShapes Go.WideShapes Go.ChangeAt Go.RowKit
open Go.SX
open Go.SX.E (fn pr cmp var)
set_option linter.unusedVariables false
set_option linter.unusedSimpArgs false
set_option maxRecDepth 100000
noncomputable section
def ai:List Fa:=[]
theorem aII:aR Tryz.prog (bj (aIs 4 5)):=sc ai ([]) acx ([]) (by kernel_rfl) (by kernel_rfl)
def Es:Nl:=nc aII acx
end
end Go.Proofs.YtnggbcblogpnfaaGreat.combatAttacks
