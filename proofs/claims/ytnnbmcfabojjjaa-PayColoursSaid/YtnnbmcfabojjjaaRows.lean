/-
  No cell of these rows narrows 'for every input' (looked for: loops, veiled, ifaces, maps, wideKeys, modest, calm, conditions, laid).
  DERIVED. THE GIVEN ROWS OF THIS SEAT. 4 by the template 'for every input the law returns true; each argument reads behind the call as it read before'; 0 by the template 'total and deterministic' (their statements: YtnnbmcfabojjjaaTotals.lean).
  GIVEN WITH THE SEED: the statements are not yours to turn. If you find one false, say at which input.
  Laid BY PROGRAM, IN A SANDBOX (cutbox-rows.mjs): the forced cells as the released guide's own fill.sh prints them over the translation d5aa11ddbea1a630… (all of the seat's roots in one cut). By AI agents, Wed Nov 11 2026. No macro, syntax, notation, axiom, sorry.
-/
import Derived.Test.YtnnbmcfabojjjaaChecked
import GoSem.Claim
import GoSem.ClaimJoined
import GoSem.ClaimMapViews
import Derived.JoinedTies
import Derived.KernelRfl
namespace Go.Proofs.Ytnnbmcfabojjjaa
/- THE CELL 'sum', in the pinned program and in every row, IS THE sha256 OF THE DUMP (.gsa) THAT YtnnbmcfabojjjaaProg.lean LOADS. Nothing in Lean hashes anything: it is a label: what it is worth is what the hold of that sum in a sandbox is worth. -/
noncomputable def Try.pinned : Pinned := { name := "ytnnbmcfabojjjaa", sum := "d5aa11ddbea1a63046f90aafc89835f3d83c49d2e8821fc2a6515f0cda780c8b", checked := Try.checked }
namespace Rows
def none {H : Type} : Left H := { results := [], args := [] }

/-- 'zeitnotlaw17.PaySources': WHATEVER THE INPUT: true; the input reads as it did. -/
def paySourcesSpec : ChangeSpec := { name := "paySources", fn := fun _ => fun
  | [d1, d2, d3] => { results := [.lit (.bool true)], args := [d1, d2, d3] }
  | _ => none }
def paySourcesRow : OpenClaim := { program := "ytnnbmcfabojjjaa", sum := "d5aa11ddbea1a63046f90aafc89835f3d83c49d2e8821fc2a6515f0cda780c8b", func := "zeitnot/zeitnotlaw17.PaySources", spec := "paySources", unfollowed := true, recurses := true, apart := false }
def PaySourcesSaid : Prop := paySourcesRow.holds Try.pinned (OpenSpec.ofChange paySourcesSpec)

/-- ITS FALSE NEIGHBOUR: 'it returns false'. Refute it at one input. -/
def paySourcesWrong : ChangeSpec := { name := "paySources", fn := fun _ => fun
  | [d1, d2, d3] => { results := [.lit (.bool false)], args := [d1, d2, d3] }
  | _ => none }
def PaySourcesWrongFalsely : Prop := paySourcesRow.holds Try.pinned (OpenSpec.ofChange paySourcesWrong)

/-- 'zeitnotlaw17.PayPlans': WHATEVER THE INPUT: true; the input reads as it did. -/
def payPlansSpec : ChangeSpec := { name := "payPlans", fn := fun _ => fun
  | [d1, d2, d3, d4] => { results := [.lit (.bool true)], args := [d1, d2, d3, d4] }
  | _ => none }
def payPlansRow : OpenClaim := { program := "ytnnbmcfabojjjaa", sum := "d5aa11ddbea1a63046f90aafc89835f3d83c49d2e8821fc2a6515f0cda780c8b", func := "zeitnot/zeitnotlaw17.PayPlans", spec := "payPlans", unfollowed := true, recurses := true, apart := false }
def PayPlansSaid : Prop := payPlansRow.holds Try.pinned (OpenSpec.ofChange payPlansSpec)

/-- ITS FALSE NEIGHBOUR: 'it returns false'. Refute it at one input. -/
def payPlansWrong : ChangeSpec := { name := "payPlans", fn := fun _ => fun
  | [d1, d2, d3, d4] => { results := [.lit (.bool false)], args := [d1, d2, d3, d4] }
  | _ => none }
def PayPlansWrongFalsely : Prop := payPlansRow.holds Try.pinned (OpenSpec.ofChange payPlansWrong)

/-- 'zeitnotlaw17.PayColours': WHATEVER THE INPUT: true; the input reads as it did. -/
def payColoursSpec : ChangeSpec := { name := "payColours", fn := fun _ => fun
  | [d1, d2, d3] => { results := [.lit (.bool true)], args := [d1, d2, d3] }
  | _ => none }
def payColoursRow : OpenClaim := { program := "ytnnbmcfabojjjaa", sum := "d5aa11ddbea1a63046f90aafc89835f3d83c49d2e8821fc2a6515f0cda780c8b", func := "zeitnot/zeitnotlaw17.PayColours", spec := "payColours", unfollowed := true, recurses := true, apart := false }
def PayColoursSaid : Prop := payColoursRow.holds Try.pinned (OpenSpec.ofChange payColoursSpec)

/-- ITS FALSE NEIGHBOUR: 'it returns false'. Refute it at one input. -/
def payColoursWrong : ChangeSpec := { name := "payColours", fn := fun _ => fun
  | [d1, d2, d3] => { results := [.lit (.bool false)], args := [d1, d2, d3] }
  | _ => none }
def PayColoursWrongFalsely : Prop := payColoursRow.holds Try.pinned (OpenSpec.ofChange payColoursWrong)

/-- 'zeitnotlaw17.PayHolds': WHATEVER THE INPUT: true; the input reads as it did. -/
def payHoldsSpec : ChangeSpec := { name := "payHolds", fn := fun _ => fun
  | [d1, d2, d3, d4, d5] => { results := [.lit (.bool true)], args := [d1, d2, d3, d4, d5] }
  | _ => none }
def payHoldsRow : OpenClaim := { program := "ytnnbmcfabojjjaa", sum := "d5aa11ddbea1a63046f90aafc89835f3d83c49d2e8821fc2a6515f0cda780c8b", func := "zeitnot/zeitnotlaw17.PayHolds", spec := "payHolds", unfollowed := true, recurses := true, apart := false }
def PayHoldsSaid : Prop := payHoldsRow.holds Try.pinned (OpenSpec.ofChange payHoldsSpec)

/-- ITS FALSE NEIGHBOUR: 'it returns false'. Refute it at one input. -/
def payHoldsWrong : ChangeSpec := { name := "payHolds", fn := fun _ => fun
  | [d1, d2, d3, d4, d5] => { results := [.lit (.bool false)], args := [d1, d2, d3, d4, d5] }
  | _ => none }
def PayHoldsWrongFalsely : Prop := payHoldsRow.holds Try.pinned (OpenSpec.ofChange payHoldsWrong)

/- THE SECOND FORM. 'bulk': how many values and letters a reading holds, each counted each time it is reached (what is shared counts as often as it is met; a slice's spare places count too). A statement '..UptoSaid' is the law's where the arguments, and the package variables that the reading takes, are together of bulk at most 1048576: NARROWER than '..Said'. Prove '..Said' where nothing that the law and all that it calls make is longer than what came in: it says more and counts as full. Else prove '..UptoSaid'. A law counts once. -/
mutual
def uptoBulk {H : Type} : DataW H → Nat
  | .lit (.string bytes) => bytes.length + 1
  | .lit _ => 1
  | .nil => 1
  | .ptr d => uptoBulk d + 1
  | .slice elems spare => uptoBulkAll elems + uptoBulkAll spare + 1
  | .agg parts => uptoBulkAll parts + 1
  | .iface _ d => uptoBulk d + 1
  | .map entries => uptoBulkEntries entries + 1
  | .held _ => 1
def uptoBulkAll {H : Type} : List (DataW H) → Nat
  | [] => 0
  | d :: r => uptoBulk d + uptoBulkAll r
def uptoBulkEntries {H : Type} : List (Lit × DataW H) → Nat
  | [] => 0
  | x :: r => uptoBulkEntry x + uptoBulkEntries r
def uptoBulkEntry {H : Type} : Lit × DataW H → Nat
  | (.string bytes, d) => bytes.length + uptoBulk d + 1
  | (_, d) => uptoBulk d + 1
 end
def uptoSmall : (H : Type) → List (DataW H) → Bool := fun _ ds => decide (uptoBulkAll ds ≤ 1048576)
def OpenSpec.upto (s : _root_.Go.ChangeSpec) : _root_.Go.OpenSpec := { _root_.Go.OpenSpec.ofChange s with cond := some uptoSmall }

/-- 'zeitnotlaw17.PaySources', WHERE WHAT IT READS IS OF BULK AT MOST 1048576: true; the input reads as it did. -/
def paySourcesUptoRow : OpenClaim := { program := "ytnnbmcfabojjjaa", sum := "d5aa11ddbea1a63046f90aafc89835f3d83c49d2e8821fc2a6515f0cda780c8b", func := "zeitnot/zeitnotlaw17.PaySources", spec := "paySources", unfollowed := true, recurses := true, apart := false, narrowed := true }
def PaySourcesUptoSaid : Prop := paySourcesUptoRow.holds Try.pinned (OpenSpec.upto paySourcesSpec)

/-- 'zeitnotlaw17.PayPlans', WHERE WHAT IT READS IS OF BULK AT MOST 1048576: true; the input reads as it did. -/
def payPlansUptoRow : OpenClaim := { program := "ytnnbmcfabojjjaa", sum := "d5aa11ddbea1a63046f90aafc89835f3d83c49d2e8821fc2a6515f0cda780c8b", func := "zeitnot/zeitnotlaw17.PayPlans", spec := "payPlans", unfollowed := true, recurses := true, apart := false, narrowed := true }
def PayPlansUptoSaid : Prop := payPlansUptoRow.holds Try.pinned (OpenSpec.upto payPlansSpec)

/-- 'zeitnotlaw17.PayColours', WHERE WHAT IT READS IS OF BULK AT MOST 1048576: true; the input reads as it did. -/
def payColoursUptoRow : OpenClaim := { program := "ytnnbmcfabojjjaa", sum := "d5aa11ddbea1a63046f90aafc89835f3d83c49d2e8821fc2a6515f0cda780c8b", func := "zeitnot/zeitnotlaw17.PayColours", spec := "payColours", unfollowed := true, recurses := true, apart := false, narrowed := true }
def PayColoursUptoSaid : Prop := payColoursUptoRow.holds Try.pinned (OpenSpec.upto payColoursSpec)

/-- 'zeitnotlaw17.PayHolds', WHERE WHAT IT READS IS OF BULK AT MOST 1048576: true; the input reads as it did. -/
def payHoldsUptoRow : OpenClaim := { program := "ytnnbmcfabojjjaa", sum := "d5aa11ddbea1a63046f90aafc89835f3d83c49d2e8821fc2a6515f0cda780c8b", func := "zeitnot/zeitnotlaw17.PayHolds", spec := "payHolds", unfollowed := true, recurses := true, apart := false, narrowed := true }
def PayHoldsUptoSaid : Prop := payHoldsUptoRow.holds Try.pinned (OpenSpec.upto payHoldsSpec)

end Rows
end Go.Proofs.Ytnnbmcfabojjjaa
