/-
  CombatAttacks: contracts of functions, part 2.
-/
import Derived.Test.YtnggbcblogpnfaaGreatCombatAttacksParta
namespace Go.Proofs.YtnggbcblogpnfaaGreat.combatAttacks
open Go.ChangeShapes Go.WideShapes Go.ChangeAt Go.RowKit
open Go.SX
open Go.SX.E (fn pr cmp var)
set_option linter.unusedVariables false
set_option linter.unusedSimpArgs false
set_option maxRecDepth 100000
noncomputable section
def p4:List Fa:=[]
theorem aJp:aR Tryz.prog (bj (Ng 2 3 2)):=sc p4 ([]) acZ ([]) (by kernel_rfl) (by kernel_rfl)
def ada:Nl:=nc aJp acZ
def p5:List Fa:=[]
theorem aJA:aR Tryz.prog (bj (aIq 3 1)):=sc p5 ([]) ada ([]) (by kernel_rfl) (by kernel_rfl)
def adl:Nl:=nc aJA ada
def p6:List Fa:=[]
theorem aJH:aR Tryz.prog (bj (afn 19 3 2 47 [4,1,4,3,5,1,5,3,6,1,6,2,6,3])):=sc p6 ([]) adl ([]) (by kernel_rfl) (by kernel_rfl)
def adp:Nl:=nc aJH adl
end
end Go.Proofs.YtnggbcblogpnfaaGreat.combatAttacks
