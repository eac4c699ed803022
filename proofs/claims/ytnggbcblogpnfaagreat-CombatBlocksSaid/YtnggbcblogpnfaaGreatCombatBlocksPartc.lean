/-
  CombatBlocks: contracts of functions, part 3.
-/
import Derived.Test.YtnggbcblogpnfaaGreatCombatBlocksPartb
namespace Go.Proofs.YtnggbcblogpnfaaGreat.combatBlocks
open Go.ChangeShapes Go.WideShapes Go.ChangeAt Go.RowKit
open Go.SX
open Go.SX.E (fn pr cmp var)
set_option linter.unusedVariables false
set_option linter.unusedSimpArgs false
set_option maxRecDepth 100000
noncomputable section
def p7:List Fa:=[]
theorem aLH:aL Tryz.prog (bh (agw 3 4 2)):=sc p7 ([]) aet ([]) (by kernel_rfl) (by kernel_rfl)
def aev:Nl:=nc aLH aet
def p8:List Fa:=[]
theorem aLI:aL Tryz.prog (bh (aKm 3 4 4 3)):=sc p8 ([]) aev ([]) (by kernel_rfl) (by kernel_rfl)
def aew:Nl:=nc aLI aev
def p9:List Fa:=[]
theorem aLJ:aL Tryz.prog (bh (agw 4 5 3)):=sc p9 ([]) aew ([]) (by kernel_rfl) (by kernel_rfl)
def ady:Nl:=nc aLJ aew
end
end Go.Proofs.YtnggbcblogpnfaaGreat.combatBlocks
