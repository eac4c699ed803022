/-
  CombatDamages: contracts of functions, part 3.
-/
import Derived.Test.YtnggbcblogpnfaaGreatCombatDamagesPartb
namespace Go.Proofs.YtnggbcblogpnfaaGreat.combatDamages
open Go.ChangeShapes Go.WideShapes Go.ChangeAt Go.RowKit
open Go.SX
open Go.SX.E (fn pr cmp var)
set_option linter.unusedVariables false
set_option linter.unusedSimpArgs false
set_option maxRecDepth 100000
noncomputable section
def p7:List Fa:=[]
theorem aHS:aV Tryz.prog (bz (aeW 3 4 2)):=sc p7 ([]) acV ([]) (by kernel_rfl) (by kernel_rfl)
def acW:Nl:=nc aHS acV
def p8:List Fa:=[]
theorem aHT:aV Tryz.prog (bz (aGD 3 4 4 3)):=sc p8 ([]) acW ([]) (by kernel_rfl) (by kernel_rfl)
def acX:Nl:=nc aHT acW
def p9:List Fa:=[]
theorem aHU:aV Tryz.prog (bz (aeW 4 5 3)):=sc p9 ([]) acX ([]) (by kernel_rfl) (by kernel_rfl)
def ab2:Nl:=nc aHU acX
end
end Go.Proofs.YtnggbcblogpnfaaGreat.combatDamages
