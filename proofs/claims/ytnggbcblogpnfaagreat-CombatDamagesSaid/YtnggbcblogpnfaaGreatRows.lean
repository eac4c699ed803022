/-
  No cell of these rows narrows 'for every input' (looked for: loops, veiled, ifaces, maps, wideKeys, modest, calm, conditions, laid).
  DERIVED. THE GIVEN ROWS OF THIS SEAT. 5 by the template 'for every input the law returns true; each argument reads behind the call as it read before'; 0 by the template 'total and deterministic' (their statements: YtnggbcblogpnfaaGreatTotals.lean).
  GIVEN WITH THE SEED: the statements are not yours to turn. If you find one false, say at which input.
  Laid BY PROGRAM, IN A SANDBOX (cutbox-rows.mjs): the forced cells as the released guide's own fill.sh prints them over the translation 465e46e375ccc47e… (all of the seat's roots in one cut). By AI agents, Wed Nov 11 2026. No macro, syntax, notation, axiom, sorry.
-/
import Derived.Test.YtnggbcblogpnfaaGreatChecked
import GoSem.Claim
import GoSem.ClaimJoined
import GoSem.ClaimMapViews
import Derived.JoinedTies
import Derived.KernelRfl
namespace Go.Proofs.YtnggbcblogpnfaaGreat
/- THE CELL 'sum', in the pinned program and in every row, IS THE sha256 OF THE DUMP (.gsa) THAT YtnggbcblogpnfaaGreatProg.lean LOADS. Nothing in Lean hashes anything: it is a label: what it is worth is what the hold of that sum in a sandbox is worth. -/
noncomputable def Tryz.pinned : Pinned := { name := "ytnggbcblogpnfaagreat", sum := "465e46e375ccc47e4cd030d54bdc267f1a37cc6855bd0981637936a321b5d4cb", checked := Tryz.checked }
namespace Rows
def none {H : Type} : Left H := { results := [], args := [] }

/-- 'zeitnotlaw22.CombatAttacks': WHATEVER THE INPUT: true; the input reads as it did. -/
def combatAttacksSpec : ChangeSpec := { name := "combatAttacks", fn := fun _ => fun
  | [d1, d2, d3] => { results := [.lit (.bool true)], args := [d1, d2, d3] }
  | _ => none }
def combatAttacksRow : OpenClaim := { program := "ytnggbcblogpnfaagreat", sum := "465e46e375ccc47e4cd030d54bdc267f1a37cc6855bd0981637936a321b5d4cb", func := "zeitnot/zeitnotlaw22.CombatAttacks", spec := "combatAttacks", unfollowed := true, recurses := true, apart := false }
def CombatAttacksSaid : Prop := combatAttacksRow.holds Tryz.pinned (OpenSpec.ofChange combatAttacksSpec)

/-- ITS FALSE NEIGHBOUR: 'it returns false'. Refute it at one input. -/
def combatAttacksWrong : ChangeSpec := { name := "combatAttacks", fn := fun _ => fun
  | [d1, d2, d3] => { results := [.lit (.bool false)], args := [d1, d2, d3] }
  | _ => none }
def CombatAttacksWrongFalsely : Prop := combatAttacksRow.holds Tryz.pinned (OpenSpec.ofChange combatAttacksWrong)

/-- 'zeitnotlaw22.CombatBlocks': WHATEVER THE INPUT: true; the input reads as it did. -/
def combatBlocksSpec : ChangeSpec := { name := "combatBlocks", fn := fun _ => fun
  | [d1, d2, d3] => { results := [.lit (.bool true)], args := [d1, d2, d3] }
  | _ => none }
def combatBlocksRow : OpenClaim := { program := "ytnggbcblogpnfaagreat", sum := "465e46e375ccc47e4cd030d54bdc267f1a37cc6855bd0981637936a321b5d4cb", func := "zeitnot/zeitnotlaw22.CombatBlocks", spec := "combatBlocks", unfollowed := true, recurses := true, apart := false }
def CombatBlocksSaid : Prop := combatBlocksRow.holds Tryz.pinned (OpenSpec.ofChange combatBlocksSpec)

/-- ITS FALSE NEIGHBOUR: 'it returns false'. Refute it at one input. -/
def combatBlocksWrong : ChangeSpec := { name := "combatBlocks", fn := fun _ => fun
  | [d1, d2, d3] => { results := [.lit (.bool false)], args := [d1, d2, d3] }
  | _ => none }
def CombatBlocksWrongFalsely : Prop := combatBlocksRow.holds Tryz.pinned (OpenSpec.ofChange combatBlocksWrong)

/-- 'zeitnotlaw22.CombatDamages': WHATEVER THE INPUT: true; the input reads as it did. -/
def combatDamagesSpec : ChangeSpec := { name := "combatDamages", fn := fun _ => fun
  | [d1, d2] => { results := [.lit (.bool true)], args := [d1, d2] }
  | _ => none }
def combatDamagesRow : OpenClaim := { program := "ytnggbcblogpnfaagreat", sum := "465e46e375ccc47e4cd030d54bdc267f1a37cc6855bd0981637936a321b5d4cb", func := "zeitnot/zeitnotlaw22.CombatDamages", spec := "combatDamages", unfollowed := true, recurses := true, apart := false }
def CombatDamagesSaid : Prop := combatDamagesRow.holds Tryz.pinned (OpenSpec.ofChange combatDamagesSpec)

/-- ITS FALSE NEIGHBOUR: 'it returns false'. Refute it at one input. -/
def combatDamagesWrong : ChangeSpec := { name := "combatDamages", fn := fun _ => fun
  | [d1, d2] => { results := [.lit (.bool false)], args := [d1, d2] }
  | _ => none }
def CombatDamagesWrongFalsely : Prop := combatDamagesRow.holds Tryz.pinned (OpenSpec.ofChange combatDamagesWrong)

/-- 'zeitnotlaw22.CombatPlays': WHATEVER THE INPUT: true; the input reads as it did. -/
def combatPlaysSpec : ChangeSpec := { name := "combatPlays", fn := fun _ => fun
  | [d1, d2, d3, d4] => { results := [.lit (.bool true)], args := [d1, d2, d3, d4] }
  | _ => none }
def combatPlaysRow : OpenClaim := { program := "ytnggbcblogpnfaagreat", sum := "465e46e375ccc47e4cd030d54bdc267f1a37cc6855bd0981637936a321b5d4cb", func := "zeitnot/zeitnotlaw22.CombatPlays", spec := "combatPlays", unfollowed := true, recurses := true, apart := false }
def CombatPlaysSaid : Prop := combatPlaysRow.holds Tryz.pinned (OpenSpec.ofChange combatPlaysSpec)

/-- ITS FALSE NEIGHBOUR: 'it returns false'. Refute it at one input. -/
def combatPlaysWrong : ChangeSpec := { name := "combatPlays", fn := fun _ => fun
  | [d1, d2, d3, d4] => { results := [.lit (.bool false)], args := [d1, d2, d3, d4] }
  | _ => none }
def CombatPlaysWrongFalsely : Prop := combatPlaysRow.holds Tryz.pinned (OpenSpec.ofChange combatPlaysWrong)

/-- 'zeitnotlaw22.CombatHolds': WHATEVER THE INPUT: true; the input reads as it did. -/
def combatHoldsSpec : ChangeSpec := { name := "combatHolds", fn := fun _ => fun
  | [d1, d2, d3, d4] => { results := [.lit (.bool true)], args := [d1, d2, d3, d4] }
  | _ => none }
def combatHoldsRow : OpenClaim := { program := "ytnggbcblogpnfaagreat", sum := "465e46e375ccc47e4cd030d54bdc267f1a37cc6855bd0981637936a321b5d4cb", func := "zeitnot/zeitnotlaw22.CombatHolds", spec := "combatHolds", unfollowed := true, recurses := true, apart := false }
def CombatHoldsSaid : Prop := combatHoldsRow.holds Tryz.pinned (OpenSpec.ofChange combatHoldsSpec)

/-- ITS FALSE NEIGHBOUR: 'it returns false'. Refute it at one input. -/
def combatHoldsWrong : ChangeSpec := { name := "combatHolds", fn := fun _ => fun
  | [d1, d2, d3, d4] => { results := [.lit (.bool false)], args := [d1, d2, d3, d4] }
  | _ => none }
def CombatHoldsWrongFalsely : Prop := combatHoldsRow.holds Tryz.pinned (OpenSpec.ofChange combatHoldsWrong)

/- THE SECOND FORM. 'bulk': how many values and letters a reading holds, each counted each time it is reached (what is shared counts as often as it is met; a slice's spare places count too). A statement '..UptoSaid' is the law's where the arguments, and the package variables that the reading takes, are together of bulk at most 1048576: NARROWER than '..Said'. Prove '..Said' where nothing that the law and all that it calls make is longer than what came in: it says more and counts as full. Else prove '..UptoSaid'. A law counts once. -/
mutual
def uptoBulk {H : Type} : DataW H → Nat
  | .lit (.string bytes) => bytes.length + 1
  | .lit _ => 1
  | .nil => 1
  | .ptr d => uptoBulk d + 1
  | .slice elems spare => uptoBulkAll elems + uptoBulkAll spare + 1
  | .agg parts => uptoBulkAll parts + 1
  | .iface _ d => uptoBulk d + 1
  | .map entries => uptoBulkEntries entries + 1
  | .held _ => 1
def uptoBulkAll {H : Type} : List (DataW H) → Nat
  | [] => 0
  | d :: r => uptoBulk d + uptoBulkAll r
def uptoBulkEntries {H : Type} : List (Lit × DataW H) → Nat
  | [] => 0
  | x :: r => uptoBulkEntry x + uptoBulkEntries r
def uptoBulkEntry {H : Type} : Lit × DataW H → Nat
  | (.string bytes, d) => bytes.length + uptoBulk d + 1
  | (_, d) => uptoBulk d + 1
 end
def uptoSmall : (H : Type) → List (DataW H) → Bool := fun _ ds => decide (uptoBulkAll ds ≤ 1048576)
def OpenSpec.upto (s : _root_.Go.ChangeSpec) : _root_.Go.OpenSpec := { _root_.Go.OpenSpec.ofChange s with cond := some uptoSmall }

/-- 'zeitnotlaw22.CombatAttacks', WHERE WHAT IT READS IS OF BULK AT MOST 1048576: true; the input reads as it did. -/
def combatAttacksUptoRow : OpenClaim := { program := "ytnggbcblogpnfaagreat", sum := "465e46e375ccc47e4cd030d54bdc267f1a37cc6855bd0981637936a321b5d4cb", func := "zeitnot/zeitnotlaw22.CombatAttacks", spec := "combatAttacks", unfollowed := true, recurses := true, apart := false, narrowed := true }
def CombatAttacksUptoSaid : Prop := combatAttacksUptoRow.holds Tryz.pinned (OpenSpec.upto combatAttacksSpec)

/-- 'zeitnotlaw22.CombatBlocks', WHERE WHAT IT READS IS OF BULK AT MOST 1048576: true; the input reads as it did. -/
def combatBlocksUptoRow : OpenClaim := { program := "ytnggbcblogpnfaagreat", sum := "465e46e375ccc47e4cd030d54bdc267f1a37cc6855bd0981637936a321b5d4cb", func := "zeitnot/zeitnotlaw22.CombatBlocks", spec := "combatBlocks", unfollowed := true, recurses := true, apart := false, narrowed := true }
def CombatBlocksUptoSaid : Prop := combatBlocksUptoRow.holds Tryz.pinned (OpenSpec.upto combatBlocksSpec)

/-- 'zeitnotlaw22.CombatDamages', WHERE WHAT IT READS IS OF BULK AT MOST 1048576: true; the input reads as it did. -/
def combatDamagesUptoRow : OpenClaim := { program := "ytnggbcblogpnfaagreat", sum := "465e46e375ccc47e4cd030d54bdc267f1a37cc6855bd0981637936a321b5d4cb", func := "zeitnot/zeitnotlaw22.CombatDamages", spec := "combatDamages", unfollowed := true, recurses := true, apart := false, narrowed := true }
def CombatDamagesUptoSaid : Prop := combatDamagesUptoRow.holds Tryz.pinned (OpenSpec.upto combatDamagesSpec)

/-- 'zeitnotlaw22.CombatPlays', WHERE WHAT IT READS IS OF BULK AT MOST 1048576: true; the input reads as it did. -/
def combatPlaysUptoRow : OpenClaim := { program := "ytnggbcblogpnfaagreat", sum := "465e46e375ccc47e4cd030d54bdc267f1a37cc6855bd0981637936a321b5d4cb", func := "zeitnot/zeitnotlaw22.CombatPlays", spec := "combatPlays", unfollowed := true, recurses := true, apart := false, narrowed := true }
def CombatPlaysUptoSaid : Prop := combatPlaysUptoRow.holds Tryz.pinned (OpenSpec.upto combatPlaysSpec)

/-- 'zeitnotlaw22.CombatHolds', WHERE WHAT IT READS IS OF BULK AT MOST 1048576: true; the input reads as it did. -/
def combatHoldsUptoRow : OpenClaim := { program := "ytnggbcblogpnfaagreat", sum := "465e46e375ccc47e4cd030d54bdc267f1a37cc6855bd0981637936a321b5d4cb", func := "zeitnot/zeitnotlaw22.CombatHolds", spec := "combatHolds", unfollowed := true, recurses := true, apart := false, narrowed := true }
def CombatHoldsUptoSaid : Prop := combatHoldsUptoRow.holds Tryz.pinned (OpenSpec.upto combatHoldsSpec)

end Rows
end Go.Proofs.YtnggbcblogpnfaaGreat
