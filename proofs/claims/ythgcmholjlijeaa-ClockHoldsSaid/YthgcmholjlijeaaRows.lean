/-
  No cell of these rows narrows 'for every input' (looked for: loops, veiled, ifaces, maps, wideKeys, modest, calm, conditions, laid).
  DERIVED. THE GIVEN ROWS OF THIS SEAT. 5 by the template 'for every input the law returns true; each argument reads behind the call as it read before'; 0 by the template 'total and deterministic' (their statements: YthgcmholjlijeaaTotals.lean).
  GIVEN WITH THE SEED: the statements are not yours to turn. If you find one false, say at which input.
  Laid BY PROGRAM, IN A SANDBOX (cutbox-rows.mjs): the forced cells as the released guide's own fill.sh prints them over the translation 7f21d5c6c5ba31e9… (all of the seat's roots in one cut). By AI agents, Wed Nov 11 2026. No macro, syntax, notation, axiom, sorry.
-/
import Derived.Test.YthgcmholjlijeaaChecked
import GoSem.Claim
import GoSem.ClaimJoined
import GoSem.ClaimMapViews
import Derived.JoinedTies
import Derived.KernelRfl
namespace Go.Proofs.Ythgcmholjlijeaa
/- THE CELL 'sum', in the pinned program and in every row, IS THE sha256 OF THE DUMP (.gsa) THAT YthgcmholjlijeaaProg.lean LOADS. Nothing in Lean hashes anything: it is a label: what it is worth is what the hold of that sum in a sandbox is worth. -/
noncomputable def Try.pinned : Pinned := { name := "ythgcmholjlijeaa", sum := "7f21d5c6c5ba31e9cdf5b896e8ea0f409113eb2f803e557fa3944da8f0f5ef6f", checked := Try.checked }
namespace Rows
def none {H : Type} : Left H := { results := [], args := [] }

/-- 'zeitnotlaw27.ClockPrompts': WHATEVER THE INPUT: true; the input reads as it did. -/
def clockPromptsSpec : ChangeSpec := { name := "clockPrompts", fn := fun _ => fun
  | [d1, d2, d3] => { results := [.lit (.bool true)], args := [d1, d2, d3] }
  | _ => none }
def clockPromptsRow : OpenClaim := { program := "ythgcmholjlijeaa", sum := "7f21d5c6c5ba31e9cdf5b896e8ea0f409113eb2f803e557fa3944da8f0f5ef6f", func := "zeitnot/zeitnotlaw27.ClockPrompts", spec := "clockPrompts", apart := false }
def ClockPromptsSaid : Prop := clockPromptsRow.holds Try.pinned (OpenSpec.ofChange clockPromptsSpec)

/-- ITS FALSE NEIGHBOUR: 'it returns false'. Refute it at one input. -/
def clockPromptsWrong : ChangeSpec := { name := "clockPrompts", fn := fun _ => fun
  | [d1, d2, d3] => { results := [.lit (.bool false)], args := [d1, d2, d3] }
  | _ => none }
def ClockPromptsWrongFalsely : Prop := clockPromptsRow.holds Try.pinned (OpenSpec.ofChange clockPromptsWrong)

/-- 'zeitnotlaw27.ClockValid': WHATEVER THE INPUT: true; the input reads as it did. -/
def clockValidSpec : ChangeSpec := { name := "clockValid", fn := fun _ => fun
  | [d] => { results := [.lit (.bool true)], args := [d] }
  | _ => none }
def clockValidRow : OpenClaim := { program := "ythgcmholjlijeaa", sum := "7f21d5c6c5ba31e9cdf5b896e8ea0f409113eb2f803e557fa3944da8f0f5ef6f", func := "zeitnot/zeitnotlaw27.ClockValid", spec := "clockValid", apart := false }
def ClockValidSaid : Prop := clockValidRow.holds Try.pinned (OpenSpec.ofChange clockValidSpec)

/-- ITS FALSE NEIGHBOUR: 'it returns false'. Refute it at one input. -/
def clockValidWrong : ChangeSpec := { name := "clockValid", fn := fun _ => fun
  | [d] => { results := [.lit (.bool false)], args := [d] }
  | _ => none }
def ClockValidWrongFalsely : Prop := clockValidRow.holds Try.pinned (OpenSpec.ofChange clockValidWrong)

/-- 'zeitnotlaw27.ClockHolds': WHATEVER THE INPUT: true; the input reads as it did. -/
def clockHoldsSpec : ChangeSpec := { name := "clockHolds", fn := fun _ => fun
  | [d1, d2] => { results := [.lit (.bool true)], args := [d1, d2] }
  | _ => none }
def clockHoldsRow : OpenClaim := { program := "ythgcmholjlijeaa", sum := "7f21d5c6c5ba31e9cdf5b896e8ea0f409113eb2f803e557fa3944da8f0f5ef6f", func := "zeitnot/zeitnotlaw27.ClockHolds", spec := "clockHolds", apart := false }
def ClockHoldsSaid : Prop := clockHoldsRow.holds Try.pinned (OpenSpec.ofChange clockHoldsSpec)

/-- ITS FALSE NEIGHBOUR: 'it returns false'. Refute it at one input. -/
def clockHoldsWrong : ChangeSpec := { name := "clockHolds", fn := fun _ => fun
  | [d1, d2] => { results := [.lit (.bool false)], args := [d1, d2] }
  | _ => none }
def ClockHoldsWrongFalsely : Prop := clockHoldsRow.holds Try.pinned (OpenSpec.ofChange clockHoldsWrong)

/-- 'zeitnotlaw27.ClockPlays': WHATEVER THE INPUT: true; the input reads as it did. -/
def clockPlaysSpec : ChangeSpec := { name := "clockPlays", fn := fun _ => fun
  | [d1, d2] => { results := [.lit (.bool true)], args := [d1, d2] }
  | _ => none }
def clockPlaysRow : OpenClaim := { program := "ythgcmholjlijeaa", sum := "7f21d5c6c5ba31e9cdf5b896e8ea0f409113eb2f803e557fa3944da8f0f5ef6f", func := "zeitnot/zeitnotlaw27.ClockPlays", spec := "clockPlays", apart := false }
def ClockPlaysSaid : Prop := clockPlaysRow.holds Try.pinned (OpenSpec.ofChange clockPlaysSpec)

/-- ITS FALSE NEIGHBOUR: 'it returns false'. Refute it at one input. -/
def clockPlaysWrong : ChangeSpec := { name := "clockPlays", fn := fun _ => fun
  | [d1, d2] => { results := [.lit (.bool false)], args := [d1, d2] }
  | _ => none }
def ClockPlaysWrongFalsely : Prop := clockPlaysRow.holds Try.pinned (OpenSpec.ofChange clockPlaysWrong)

/-- 'zeitnotlaw27.ClockNone': WHATEVER THE INPUT: true; the input reads as it did. -/
def clockNoneSpec : ChangeSpec := { name := "clockNone", fn := fun _ => fun
  | [d1, d2] => { results := [.lit (.bool true)], args := [d1, d2] }
  | _ => none }
def clockNoneRow : OpenClaim := { program := "ythgcmholjlijeaa", sum := "7f21d5c6c5ba31e9cdf5b896e8ea0f409113eb2f803e557fa3944da8f0f5ef6f", func := "zeitnot/zeitnotlaw27.ClockNone", spec := "clockNone", apart := false }
def ClockNoneSaid : Prop := clockNoneRow.holds Try.pinned (OpenSpec.ofChange clockNoneSpec)

/-- ITS FALSE NEIGHBOUR: 'it returns false'. Refute it at one input. -/
def clockNoneWrong : ChangeSpec := { name := "clockNone", fn := fun _ => fun
  | [d1, d2] => { results := [.lit (.bool false)], args := [d1, d2] }
  | _ => none }
def ClockNoneWrongFalsely : Prop := clockNoneRow.holds Try.pinned (OpenSpec.ofChange clockNoneWrong)

/- THE SECOND FORM. 'bulk': how many values and letters a reading holds, each counted each time it is reached (what is shared counts as often as it is met; a slice's spare places count too). A statement '..UptoSaid' is the law's where the arguments, and the package variables that the reading takes, are together of bulk at most 1048576: NARROWER than '..Said'. Prove '..Said' where nothing that the law and all that it calls make is longer than what came in: it says more and counts as full. Else prove '..UptoSaid'. A law counts once. -/
mutual
def uptoBulk {H : Type} : DataW H → Nat
  | .lit (.string bytes) => bytes.length + 1
  | .lit _ => 1
  | .nil => 1
  | .ptr d => uptoBulk d + 1
  | .slice elems spare => uptoBulkAll elems + uptoBulkAll spare + 1
  | .agg parts => uptoBulkAll parts + 1
  | .iface _ d => uptoBulk d + 1
  | .map entries => uptoBulkEntries entries + 1
  | .held _ => 1
def uptoBulkAll {H : Type} : List (DataW H) → Nat
  | [] => 0
  | d :: r => uptoBulk d + uptoBulkAll r
def uptoBulkEntries {H : Type} : List (Lit × DataW H) → Nat
  | [] => 0
  | x :: r => uptoBulkEntry x + uptoBulkEntries r
def uptoBulkEntry {H : Type} : Lit × DataW H → Nat
  | (.string bytes, d) => bytes.length + uptoBulk d + 1
  | (_, d) => uptoBulk d + 1
 end
def uptoSmall : (H : Type) → List (DataW H) → Bool := fun _ ds => decide (uptoBulkAll ds ≤ 1048576)
def OpenSpec.upto (s : _root_.Go.ChangeSpec) : _root_.Go.OpenSpec := { _root_.Go.OpenSpec.ofChange s with cond := some uptoSmall }

/-- 'zeitnotlaw27.ClockPrompts', WHERE WHAT IT READS IS OF BULK AT MOST 1048576: true; the input reads as it did. -/
def clockPromptsUptoRow : OpenClaim := { program := "ythgcmholjlijeaa", sum := "7f21d5c6c5ba31e9cdf5b896e8ea0f409113eb2f803e557fa3944da8f0f5ef6f", func := "zeitnot/zeitnotlaw27.ClockPrompts", spec := "clockPrompts", apart := false, narrowed := true }
def ClockPromptsUptoSaid : Prop := clockPromptsUptoRow.holds Try.pinned (OpenSpec.upto clockPromptsSpec)

/-- 'zeitnotlaw27.ClockValid', WHERE WHAT IT READS IS OF BULK AT MOST 1048576: true; the input reads as it did. -/
def clockValidUptoRow : OpenClaim := { program := "ythgcmholjlijeaa", sum := "7f21d5c6c5ba31e9cdf5b896e8ea0f409113eb2f803e557fa3944da8f0f5ef6f", func := "zeitnot/zeitnotlaw27.ClockValid", spec := "clockValid", apart := false, narrowed := true }
def ClockValidUptoSaid : Prop := clockValidUptoRow.holds Try.pinned (OpenSpec.upto clockValidSpec)

/-- 'zeitnotlaw27.ClockHolds', WHERE WHAT IT READS IS OF BULK AT MOST 1048576: true; the input reads as it did. -/
def clockHoldsUptoRow : OpenClaim := { program := "ythgcmholjlijeaa", sum := "7f21d5c6c5ba31e9cdf5b896e8ea0f409113eb2f803e557fa3944da8f0f5ef6f", func := "zeitnot/zeitnotlaw27.ClockHolds", spec := "clockHolds", apart := false, narrowed := true }
def ClockHoldsUptoSaid : Prop := clockHoldsUptoRow.holds Try.pinned (OpenSpec.upto clockHoldsSpec)

/-- 'zeitnotlaw27.ClockPlays', WHERE WHAT IT READS IS OF BULK AT MOST 1048576: true; the input reads as it did. -/
def clockPlaysUptoRow : OpenClaim := { program := "ythgcmholjlijeaa", sum := "7f21d5c6c5ba31e9cdf5b896e8ea0f409113eb2f803e557fa3944da8f0f5ef6f", func := "zeitnot/zeitnotlaw27.ClockPlays", spec := "clockPlays", apart := false, narrowed := true }
def ClockPlaysUptoSaid : Prop := clockPlaysUptoRow.holds Try.pinned (OpenSpec.upto clockPlaysSpec)

/-- 'zeitnotlaw27.ClockNone', WHERE WHAT IT READS IS OF BULK AT MOST 1048576: true; the input reads as it did. -/
def clockNoneUptoRow : OpenClaim := { program := "ythgcmholjlijeaa", sum := "7f21d5c6c5ba31e9cdf5b896e8ea0f409113eb2f803e557fa3944da8f0f5ef6f", func := "zeitnot/zeitnotlaw27.ClockNone", spec := "clockNone", apart := false, narrowed := true }
def ClockNoneUptoSaid : Prop := clockNoneUptoRow.holds Try.pinned (OpenSpec.upto clockNoneSpec)

end Rows
end Go.Proofs.Ythgcmholjlijeaa
