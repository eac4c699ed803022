/-
  CombatBlocks: contracts of functions, part 2.
-/
import Derived.Test.YtnggbcblogpnfaaGreatCombatBlocksParta
namespace Go.Proofs.YtnggbcblogpnfaaGreat.combatBlocks
open Go.ChangeShapes Go.WideShapes Go.ChangeAt Go.RowKit
open Go.SX
open Go.SX.E (fn pr cmp var)
set_option linter.unusedVariables false
set_option linter.unusedSimpArgs false
set_option maxRecDepth 100000
noncomputable section
def p4:List Fa:=[]
theorem aLl:aL Tryz.prog (bh (Nz 2 3 2)):=sc p4 ([]) ad1 ([]) (by kernel_rfl) (by kernel_rfl)
def aec:Nl:=nc aLl ad1
def p5:List Fa:=[]
theorem aLw:aL Tryz.prog (bh (aKl 3 1)):=sc p5 ([]) aec ([]) (by kernel_rfl) (by kernel_rfl)
def aen:Nl:=nc aLw aec
def p6:List Fa:=[]
theorem aLG:aL Tryz.prog (bh (agx 19 3 2 47 [4,1,4,3,5,1,5,3,6,1,6,2,6,3])):=sc p6 ([]) aen ([]) (by kernel_rfl) (by kernel_rfl)
def aet:Nl:=nc aLG aen
end
end Go.Proofs.YtnggbcblogpnfaaGreat.combatBlocks
