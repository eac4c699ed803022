/-
  No cell of these rows narrows 'for every input' (looked for: loops, veiled, ifaces, maps, wideKeys, modest, calm, conditions, laid).
  DERIVED. THE GIVEN ROWS OF THIS SEAT. 5 by the template 'for every input the law returns true; each argument reads behind the call as it read before'; 0 by the template 'total and deterministic' (their statements: YtmngplmblanhdaaTotals.lean).
  GIVEN WITH THE SEED: the statements are not yours to turn. If you find one false, say at which input.
  Laid BY PROGRAM, IN A SANDBOX (cutbox-rows.mjs): the forced cells as the released guide's own fill.sh prints them over the translation 8b0e0908e5338088… (all of the seat's roots in one cut). By AI agents, Wed Nov 11 2026. No macro, syntax, notation, axiom, sorry.
-/
import Derived.Test.YtmngplmblanhdaaChecked
import GoSem.Claim
import GoSem.ClaimJoined
import GoSem.ClaimMapViews
import Derived.JoinedTies
import Derived.KernelRfl
namespace Go.Proofs.Ytmngplmblanhdaa
/- THE CELL 'sum', in the pinned program and in every row, IS THE sha256 OF THE DUMP (.gsa) THAT YtmngplmblanhdaaProg.lean LOADS. Nothing in Lean hashes anything: it is a label: what it is worth is what the hold of that sum in a sandbox is worth. -/
noncomputable def Try.pinned : Pinned := { name := "ytmngplmblanhdaa", sum := "8b0e0908e53380886f9b268bca48ef6d5b3a7171328f6cfb204d8f5c4765ef73", checked := Try.checked }
namespace Rows
def none {H : Type} : Left H := { results := [], args := [] }

/-- 'zeitnotlaw51.MetaBests': WHATEVER THE INPUT: true; the input reads as it did. -/
def metaBestsSpec : ChangeSpec := { name := "metaBests", fn := fun _ => fun
  | [d1, d2, d3] => { results := [.lit (.bool true)], args := [d1, d2, d3] }
  | _ => none }
def metaBestsRow : OpenClaim := { program := "ytmngplmblanhdaa", sum := "8b0e0908e53380886f9b268bca48ef6d5b3a7171328f6cfb204d8f5c4765ef73", func := "zeitnot/zeitnotlaw51.MetaBests", spec := "metaBests", unfollowed := true, recurses := true, apart := false }
def MetaBestsSaid : Prop := metaBestsRow.holds Try.pinned (OpenSpec.ofChange metaBestsSpec)

/-- ITS FALSE NEIGHBOUR: 'it returns false'. Refute it at one input. -/
def metaBestsWrong : ChangeSpec := { name := "metaBests", fn := fun _ => fun
  | [d1, d2, d3] => { results := [.lit (.bool false)], args := [d1, d2, d3] }
  | _ => none }
def MetaBestsWrongFalsely : Prop := metaBestsRow.holds Try.pinned (OpenSpec.ofChange metaBestsWrong)

/-- 'zeitnotlaw51.MetaHolds': WHATEVER THE INPUT: true; the input reads as it did. -/
def metaHoldsSpec : ChangeSpec := { name := "metaHolds", fn := fun _ => fun
  | [d1, d2] => { results := [.lit (.bool true)], args := [d1, d2] }
  | _ => none }
def metaHoldsRow : OpenClaim := { program := "ytmngplmblanhdaa", sum := "8b0e0908e53380886f9b268bca48ef6d5b3a7171328f6cfb204d8f5c4765ef73", func := "zeitnot/zeitnotlaw51.MetaHolds", spec := "metaHolds", unfollowed := true, recurses := true, apart := false }
def MetaHoldsSaid : Prop := metaHoldsRow.holds Try.pinned (OpenSpec.ofChange metaHoldsSpec)

/-- ITS FALSE NEIGHBOUR: 'it returns false'. Refute it at one input. -/
def metaHoldsWrong : ChangeSpec := { name := "metaHolds", fn := fun _ => fun
  | [d1, d2] => { results := [.lit (.bool false)], args := [d1, d2] }
  | _ => none }
def MetaHoldsWrongFalsely : Prop := metaHoldsRow.holds Try.pinned (OpenSpec.ofChange metaHoldsWrong)

/-- 'zeitnotlaw51.MetaFulls': WHATEVER THE INPUT: true; the input reads as it did. -/
def metaFullsSpec : ChangeSpec := { name := "metaFulls", fn := fun _ => fun
  | [d1, d2] => { results := [.lit (.bool true)], args := [d1, d2] }
  | _ => none }
def metaFullsRow : OpenClaim := { program := "ytmngplmblanhdaa", sum := "8b0e0908e53380886f9b268bca48ef6d5b3a7171328f6cfb204d8f5c4765ef73", func := "zeitnot/zeitnotlaw51.MetaFulls", spec := "metaFulls", unfollowed := true, recurses := true, apart := false }
def MetaFullsSaid : Prop := metaFullsRow.holds Try.pinned (OpenSpec.ofChange metaFullsSpec)

/-- ITS FALSE NEIGHBOUR: 'it returns false'. Refute it at one input. -/
def metaFullsWrong : ChangeSpec := { name := "metaFulls", fn := fun _ => fun
  | [d1, d2] => { results := [.lit (.bool false)], args := [d1, d2] }
  | _ => none }
def MetaFullsWrongFalsely : Prop := metaFullsRow.holds Try.pinned (OpenSpec.ofChange metaFullsWrong)

/-- 'zeitnotlaw51.MetaFields': WHATEVER THE INPUT: true; the input reads as it did. -/
def metaFieldsSpec : ChangeSpec := { name := "metaFields", fn := fun _ => fun
  | [d1, d2, d3] => { results := [.lit (.bool true)], args := [d1, d2, d3] }
  | _ => none }
def metaFieldsRow : OpenClaim := { program := "ytmngplmblanhdaa", sum := "8b0e0908e53380886f9b268bca48ef6d5b3a7171328f6cfb204d8f5c4765ef73", func := "zeitnot/zeitnotlaw51.MetaFields", spec := "metaFields", unfollowed := true, recurses := true, apart := false }
def MetaFieldsSaid : Prop := metaFieldsRow.holds Try.pinned (OpenSpec.ofChange metaFieldsSpec)

/-- ITS FALSE NEIGHBOUR: 'it returns false'. Refute it at one input. -/
def metaFieldsWrong : ChangeSpec := { name := "metaFields", fn := fun _ => fun
  | [d1, d2, d3] => { results := [.lit (.bool false)], args := [d1, d2, d3] }
  | _ => none }
def MetaFieldsWrongFalsely : Prop := metaFieldsRow.holds Try.pinned (OpenSpec.ofChange metaFieldsWrong)

/-- 'zeitnotlaw51.MetaNone': WHATEVER THE INPUT: true; the input reads as it did. -/
def metaNoneSpec : ChangeSpec := { name := "metaNone", fn := fun _ => fun
  | [d1, d2, d3] => { results := [.lit (.bool true)], args := [d1, d2, d3] }
  | _ => none }
def metaNoneRow : OpenClaim := { program := "ytmngplmblanhdaa", sum := "8b0e0908e53380886f9b268bca48ef6d5b3a7171328f6cfb204d8f5c4765ef73", func := "zeitnot/zeitnotlaw51.MetaNone", spec := "metaNone", unfollowed := true, recurses := true, apart := false }
def MetaNoneSaid : Prop := metaNoneRow.holds Try.pinned (OpenSpec.ofChange metaNoneSpec)

/-- ITS FALSE NEIGHBOUR: 'it returns false'. Refute it at one input. -/
def metaNoneWrong : ChangeSpec := { name := "metaNone", fn := fun _ => fun
  | [d1, d2, d3] => { results := [.lit (.bool false)], args := [d1, d2, d3] }
  | _ => none }
def MetaNoneWrongFalsely : Prop := metaNoneRow.holds Try.pinned (OpenSpec.ofChange metaNoneWrong)

/- THE SECOND FORM. 'bulk': how many values and letters a reading holds, each counted each time it is reached (what is shared counts as often as it is met; a slice's spare places count too). A statement '..UptoSaid' is the law's where the arguments, and the package variables that the reading takes, are together of bulk at most 1048576: NARROWER than '..Said'. Prove '..Said' where nothing that the law and all that it calls make is longer than what came in: it says more and counts as full. Else prove '..UptoSaid'. A law counts once. -/
mutual
def uptoBulk {H : Type} : DataW H → Nat
  | .lit (.string bytes) => bytes.length + 1
  | .lit _ => 1
  | .nil => 1
  | .ptr d => uptoBulk d + 1
  | .slice elems spare => uptoBulkAll elems + uptoBulkAll spare + 1
  | .agg parts => uptoBulkAll parts + 1
  | .iface _ d => uptoBulk d + 1
  | .map entries => uptoBulkEntries entries + 1
  | .held _ => 1
def uptoBulkAll {H : Type} : List (DataW H) → Nat
  | [] => 0
  | d :: r => uptoBulk d + uptoBulkAll r
def uptoBulkEntries {H : Type} : List (Lit × DataW H) → Nat
  | [] => 0
  | x :: r => uptoBulkEntry x + uptoBulkEntries r
def uptoBulkEntry {H : Type} : Lit × DataW H → Nat
  | (.string bytes, d) => bytes.length + uptoBulk d + 1
  | (_, d) => uptoBulk d + 1
 end
def uptoSmall : (H : Type) → List (DataW H) → Bool := fun _ ds => decide (uptoBulkAll ds ≤ 1048576)
def OpenSpec.upto (s : _root_.Go.ChangeSpec) : _root_.Go.OpenSpec := { _root_.Go.OpenSpec.ofChange s with cond := some uptoSmall }

/-- 'zeitnotlaw51.MetaBests', WHERE WHAT IT READS IS OF BULK AT MOST 1048576: true; the input reads as it did. -/
def metaBestsUptoRow : OpenClaim := { program := "ytmngplmblanhdaa", sum := "8b0e0908e53380886f9b268bca48ef6d5b3a7171328f6cfb204d8f5c4765ef73", func := "zeitnot/zeitnotlaw51.MetaBests", spec := "metaBests", unfollowed := true, recurses := true, apart := false, narrowed := true }
def MetaBestsUptoSaid : Prop := metaBestsUptoRow.holds Try.pinned (OpenSpec.upto metaBestsSpec)

/-- 'zeitnotlaw51.MetaHolds', WHERE WHAT IT READS IS OF BULK AT MOST 1048576: true; the input reads as it did. -/
def metaHoldsUptoRow : OpenClaim := { program := "ytmngplmblanhdaa", sum := "8b0e0908e53380886f9b268bca48ef6d5b3a7171328f6cfb204d8f5c4765ef73", func := "zeitnot/zeitnotlaw51.MetaHolds", spec := "metaHolds", unfollowed := true, recurses := true, apart := false, narrowed := true }
def MetaHoldsUptoSaid : Prop := metaHoldsUptoRow.holds Try.pinned (OpenSpec.upto metaHoldsSpec)

/-- 'zeitnotlaw51.MetaFulls', WHERE WHAT IT READS IS OF BULK AT MOST 1048576: true; the input reads as it did. -/
def metaFullsUptoRow : OpenClaim := { program := "ytmngplmblanhdaa", sum := "8b0e0908e53380886f9b268bca48ef6d5b3a7171328f6cfb204d8f5c4765ef73", func := "zeitnot/zeitnotlaw51.MetaFulls", spec := "metaFulls", unfollowed := true, recurses := true, apart := false, narrowed := true }
def MetaFullsUptoSaid : Prop := metaFullsUptoRow.holds Try.pinned (OpenSpec.upto metaFullsSpec)

/-- 'zeitnotlaw51.MetaFields', WHERE WHAT IT READS IS OF BULK AT MOST 1048576: true; the input reads as it did. -/
def metaFieldsUptoRow : OpenClaim := { program := "ytmngplmblanhdaa", sum := "8b0e0908e53380886f9b268bca48ef6d5b3a7171328f6cfb204d8f5c4765ef73", func := "zeitnot/zeitnotlaw51.MetaFields", spec := "metaFields", unfollowed := true, recurses := true, apart := false, narrowed := true }
def MetaFieldsUptoSaid : Prop := metaFieldsUptoRow.holds Try.pinned (OpenSpec.upto metaFieldsSpec)

/-- 'zeitnotlaw51.MetaNone', WHERE WHAT IT READS IS OF BULK AT MOST 1048576: true; the input reads as it did. -/
def metaNoneUptoRow : OpenClaim := { program := "ytmngplmblanhdaa", sum := "8b0e0908e53380886f9b268bca48ef6d5b3a7171328f6cfb204d8f5c4765ef73", func := "zeitnot/zeitnotlaw51.MetaNone", spec := "metaNone", unfollowed := true, recurses := true, apart := false, narrowed := true }
def MetaNoneUptoSaid : Prop := metaNoneUptoRow.holds Try.pinned (OpenSpec.upto metaNoneSpec)

end Rows
end Go.Proofs.Ytmngplmblanhdaa
