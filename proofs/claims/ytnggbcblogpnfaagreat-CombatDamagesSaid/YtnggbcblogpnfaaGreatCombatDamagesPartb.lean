/-
  CombatDamages: contracts of functions, part 2.
-/
import Derived.Test.YtnggbcblogpnfaaGreatCombatDamagesParta
namespace Go.Proofs.YtnggbcblogpnfaaGreat.combatDamages
open Go.ChangeShapes Go.WideShapes Go.ChangeAt Go.RowKit
open Go.SX
open Go.SX.E (fn pr cmp var)
set_option linter.unusedVariables false
set_option linter.unusedSimpArgs false
set_option maxRecDepth 100000
noncomputable section
def p4:List Fa:=[]
theorem aHC:aV Tryz.prog (bz (Np 2 3 2)):=sc p4 ([]) acx ([]) (by kernel_rfl) (by kernel_rfl)
def acI:Nl:=nc aHC acx
def p5:List Fa:=[]
theorem aHN:aV Tryz.prog (bz (aGC 3 1)):=sc p5 ([]) acI ([]) (by kernel_rfl) (by kernel_rfl)
def acS:Nl:=nc aHN acI
def p6:List Fa:=[]
theorem aHR:aV Tryz.prog (bz (aeX 19 3 2 47 [4,1,4,3,5,1,5,3,6,1,6,2,6,3])):=sc p6 ([]) acS ([]) (by kernel_rfl) (by kernel_rfl)
def acV:Nl:=nc aHR acS
end
end Go.Proofs.YtnggbcblogpnfaaGreat.combatDamages
