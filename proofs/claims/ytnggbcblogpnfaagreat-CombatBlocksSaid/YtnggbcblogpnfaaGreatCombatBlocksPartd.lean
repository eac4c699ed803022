/-
  CombatBlocks: contracts of functions, part 4.
-/
import Derived.Test.YtnggbcblogpnfaaGreatCombatBlocksPartc
namespace Go.Proofs.YtnggbcblogpnfaaGreat.combatBlocks
open Go.ChangeShapes Go.WideShapes Go.ChangeAt Go.RowKit
open Go.SX
open Go.SX.E (fn pr cmp var)
set_option linter.unusedVariables false
set_option linter.unusedSimpArgs false
set_option maxRecDepth 100000
noncomputable section
def ak:List Fa:=[]
theorem aKE:aL Tryz.prog (bh (aKn 4 5)):=sc ak ([]) ady ([]) (by kernel_rfl) (by kernel_rfl)
def EQ:Nl:=nc aKE ady
end
end Go.Proofs.YtnggbcblogpnfaaGreat.combatBlocks
