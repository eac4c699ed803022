/-
  No cell of these rows narrows 'for every input' (looked for: loops, veiled, ifaces, maps, wideKeys, modest, calm, conditions, laid).
  DERIVED. THE GIVEN ROWS OF THIS SEAT. 7 by the template 'for every input the law returns true; each argument reads behind the call as it read before'; 0 by the template 'total and deterministic' (their statements: YtoicbojdnjcmiaaTotals.lean).
  GIVEN WITH THE SEED: the statements are not yours to turn. If you find one false, say at which input.
  Laid BY PROGRAM, IN A SANDBOX (cutbox-rows.mjs): the forced cells as the released guide's own fill.sh prints them over the translation 6133d2cecb849779… (all of the seat's roots in one cut). By AI agents, Wed Nov 11 2026. No macro, syntax, notation, axiom, sorry.
-/
import Derived.Test.YtoicbojdnjcmiaaChecked
import GoSem.Claim
import GoSem.ClaimJoined
import GoSem.ClaimMapViews
import Derived.JoinedTies
import Derived.KernelRfl
namespace Go.Proofs.Ytoicbojdnjcmiaa
/- THE CELL 'sum', in the pinned program and in every row, IS THE sha256 OF THE DUMP (.gsa) THAT YtoicbojdnjcmiaaProg.lean LOADS. Nothing in Lean hashes anything: it is a label: what it is worth is what the hold of that sum in a sandbox is worth. -/
noncomputable def Try.pinned : Pinned := { name := "ytoicbojdnjcmiaa", sum := "6133d2cecb849779676d408edd3c9fec30279e9ad9d15e24d354c7f45de9e5f3", checked := Try.checked }
namespace Rows
def none {H : Type} : Left H := { results := [], args := [] }

/-- 'zeitnotlaw31.ViewOf': WHATEVER THE INPUT: true; the input reads as it did. -/
def viewOfSpec : ChangeSpec := { name := "viewOf", fn := fun _ => fun
  | [d1, d2, d3] => { results := [.lit (.bool true)], args := [d1, d2, d3] }
  | _ => none }
def viewOfRow : OpenClaim := { program := "ytoicbojdnjcmiaa", sum := "6133d2cecb849779676d408edd3c9fec30279e9ad9d15e24d354c7f45de9e5f3", func := "zeitnot/zeitnotlaw31.ViewOf", spec := "viewOf", unfollowed := true, recurses := true, apart := false }
def ViewOfSaid : Prop := viewOfRow.holds Try.pinned (OpenSpec.ofChange viewOfSpec)

/-- ITS FALSE NEIGHBOUR: 'it returns false'. Refute it at one input. -/
def viewOfWrong : ChangeSpec := { name := "viewOf", fn := fun _ => fun
  | [d1, d2, d3] => { results := [.lit (.bool false)], args := [d1, d2, d3] }
  | _ => none }
def ViewOfWrongFalsely : Prop := viewOfRow.holds Try.pinned (OpenSpec.ofChange viewOfWrong)

/-- 'zeitnotlaw31.ViewHidden': WHATEVER THE INPUT: true; the input reads as it did. -/
def viewHiddenSpec : ChangeSpec := { name := "viewHidden", fn := fun _ => fun
  | [d1, d2] => { results := [.lit (.bool true)], args := [d1, d2] }
  | _ => none }
def viewHiddenRow : OpenClaim := { program := "ytoicbojdnjcmiaa", sum := "6133d2cecb849779676d408edd3c9fec30279e9ad9d15e24d354c7f45de9e5f3", func := "zeitnot/zeitnotlaw31.ViewHidden", spec := "viewHidden", unfollowed := true, recurses := true, apart := false }
def ViewHiddenSaid : Prop := viewHiddenRow.holds Try.pinned (OpenSpec.ofChange viewHiddenSpec)

/-- ITS FALSE NEIGHBOUR: 'it returns false'. Refute it at one input. -/
def viewHiddenWrong : ChangeSpec := { name := "viewHidden", fn := fun _ => fun
  | [d1, d2] => { results := [.lit (.bool false)], args := [d1, d2] }
  | _ => none }
def ViewHiddenWrongFalsely : Prop := viewHiddenRow.holds Try.pinned (OpenSpec.ofChange viewHiddenWrong)

/-- 'zeitnotlaw31.ViewEncodes': WHATEVER THE INPUT: true; the input reads as it did. -/
def viewEncodesSpec : ChangeSpec := { name := "viewEncodes", fn := fun _ => fun
  | [d] => { results := [.lit (.bool true)], args := [d] }
  | _ => none }
def viewEncodesRow : OpenClaim := { program := "ytoicbojdnjcmiaa", sum := "6133d2cecb849779676d408edd3c9fec30279e9ad9d15e24d354c7f45de9e5f3", func := "zeitnot/zeitnotlaw31.ViewEncodes", spec := "viewEncodes", unfollowed := true, recurses := true, apart := false }
def ViewEncodesSaid : Prop := viewEncodesRow.holds Try.pinned (OpenSpec.ofChange viewEncodesSpec)

/-- ITS FALSE NEIGHBOUR: 'it returns false'. Refute it at one input. -/
def viewEncodesWrong : ChangeSpec := { name := "viewEncodes", fn := fun _ => fun
  | [d] => { results := [.lit (.bool false)], args := [d] }
  | _ => none }
def ViewEncodesWrongFalsely : Prop := viewEncodesRow.holds Try.pinned (OpenSpec.ofChange viewEncodesWrong)

/-- 'zeitnotlaw31.ViewDecodes': WHATEVER THE INPUT: true; the input reads as it did. -/
def viewDecodesSpec : ChangeSpec := { name := "viewDecodes", fn := fun _ => fun
  | [d1, d2] => { results := [.lit (.bool true)], args := [d1, d2] }
  | _ => none }
def viewDecodesRow : OpenClaim := { program := "ytoicbojdnjcmiaa", sum := "6133d2cecb849779676d408edd3c9fec30279e9ad9d15e24d354c7f45de9e5f3", func := "zeitnot/zeitnotlaw31.ViewDecodes", spec := "viewDecodes", unfollowed := true, recurses := true, apart := false }
def ViewDecodesSaid : Prop := viewDecodesRow.holds Try.pinned (OpenSpec.ofChange viewDecodesSpec)

/-- ITS FALSE NEIGHBOUR: 'it returns false'. Refute it at one input. -/
def viewDecodesWrong : ChangeSpec := { name := "viewDecodes", fn := fun _ => fun
  | [d1, d2] => { results := [.lit (.bool false)], args := [d1, d2] }
  | _ => none }
def ViewDecodesWrongFalsely : Prop := viewDecodesRow.holds Try.pinned (OpenSpec.ofChange viewDecodesWrong)

/-- 'zeitnotlaw31.ViewLongs': WHATEVER THE INPUT: true; the input reads as it did. -/
def viewLongsSpec : ChangeSpec := { name := "viewLongs", fn := fun _ => fun
  | [d1, d2, d3] => { results := [.lit (.bool true)], args := [d1, d2, d3] }
  | _ => none }
def viewLongsRow : OpenClaim := { program := "ytoicbojdnjcmiaa", sum := "6133d2cecb849779676d408edd3c9fec30279e9ad9d15e24d354c7f45de9e5f3", func := "zeitnot/zeitnotlaw31.ViewLongs", spec := "viewLongs", unfollowed := true, recurses := true, apart := false }
def ViewLongsSaid : Prop := viewLongsRow.holds Try.pinned (OpenSpec.ofChange viewLongsSpec)

/-- ITS FALSE NEIGHBOUR: 'it returns false'. Refute it at one input. -/
def viewLongsWrong : ChangeSpec := { name := "viewLongs", fn := fun _ => fun
  | [d1, d2, d3] => { results := [.lit (.bool false)], args := [d1, d2, d3] }
  | _ => none }
def ViewLongsWrongFalsely : Prop := viewLongsRow.holds Try.pinned (OpenSpec.ofChange viewLongsWrong)

/-- 'zeitnotlaw31.ViewHolds': WHATEVER THE INPUT: true; the input reads as it did. -/
def viewHoldsSpec : ChangeSpec := { name := "viewHolds", fn := fun _ => fun
  | [d1, d2, d3, d4, d5, d6] => { results := [.lit (.bool true)], args := [d1, d2, d3, d4, d5, d6] }
  | _ => none }
def viewHoldsRow : OpenClaim := { program := "ytoicbojdnjcmiaa", sum := "6133d2cecb849779676d408edd3c9fec30279e9ad9d15e24d354c7f45de9e5f3", func := "zeitnot/zeitnotlaw31.ViewHolds", spec := "viewHolds", unfollowed := true, recurses := true, apart := false }
def ViewHoldsSaid : Prop := viewHoldsRow.holds Try.pinned (OpenSpec.ofChange viewHoldsSpec)

/-- ITS FALSE NEIGHBOUR: 'it returns false'. Refute it at one input. -/
def viewHoldsWrong : ChangeSpec := { name := "viewHolds", fn := fun _ => fun
  | [d1, d2, d3, d4, d5, d6] => { results := [.lit (.bool false)], args := [d1, d2, d3, d4, d5, d6] }
  | _ => none }
def ViewHoldsWrongFalsely : Prop := viewHoldsRow.holds Try.pinned (OpenSpec.ofChange viewHoldsWrong)

/-- 'zeitnotlaw31.ViewEqual': WHATEVER THE INPUT: true; the input reads as it did. -/
def viewEqualSpec : ChangeSpec := { name := "viewEqual", fn := fun _ => fun
  | [d1, d2] => { results := [.lit (.bool true)], args := [d1, d2] }
  | _ => none }
def viewEqualRow : OpenClaim := { program := "ytoicbojdnjcmiaa", sum := "6133d2cecb849779676d408edd3c9fec30279e9ad9d15e24d354c7f45de9e5f3", func := "zeitnot/zeitnotlaw31.ViewEqual", spec := "viewEqual", unfollowed := true, recurses := true, apart := false }
def ViewEqualSaid : Prop := viewEqualRow.holds Try.pinned (OpenSpec.ofChange viewEqualSpec)

/-- ITS FALSE NEIGHBOUR: 'it returns false'. Refute it at one input. -/
def viewEqualWrong : ChangeSpec := { name := "viewEqual", fn := fun _ => fun
  | [d1, d2] => { results := [.lit (.bool false)], args := [d1, d2] }
  | _ => none }
def ViewEqualWrongFalsely : Prop := viewEqualRow.holds Try.pinned (OpenSpec.ofChange viewEqualWrong)

/- THE SECOND FORM. 'bulk': how many values and letters a reading holds, each counted each time it is reached (what is shared counts as often as it is met; a slice's spare places count too). A statement '..UptoSaid' is the law's where the arguments, and the package variables that the reading takes, are together of bulk at most 1048576: NARROWER than '..Said'. Prove '..Said' where nothing that the law and all that it calls make is longer than what came in: it says more and counts as full. Else prove '..UptoSaid'. A law counts once. -/
mutual
def uptoBulk {H : Type} : DataW H → Nat
  | .lit (.string bytes) => bytes.length + 1
  | .lit _ => 1
  | .nil => 1
  | .ptr d => uptoBulk d + 1
  | .slice elems spare => uptoBulkAll elems + uptoBulkAll spare + 1
  | .agg parts => uptoBulkAll parts + 1
  | .iface _ d => uptoBulk d + 1
  | .map entries => uptoBulkEntries entries + 1
  | .held _ => 1
def uptoBulkAll {H : Type} : List (DataW H) → Nat
  | [] => 0
  | d :: r => uptoBulk d + uptoBulkAll r
def uptoBulkEntries {H : Type} : List (Lit × DataW H) → Nat
  | [] => 0
  | x :: r => uptoBulkEntry x + uptoBulkEntries r
def uptoBulkEntry {H : Type} : Lit × DataW H → Nat
  | (.string bytes, d) => bytes.length + uptoBulk d + 1
  | (_, d) => uptoBulk d + 1
 end
def uptoSmall : (H : Type) → List (DataW H) → Bool := fun _ ds => decide (uptoBulkAll ds ≤ 1048576)
def OpenSpec.upto (s : _root_.Go.ChangeSpec) : _root_.Go.OpenSpec := { _root_.Go.OpenSpec.ofChange s with cond := some uptoSmall }

/-- 'zeitnotlaw31.ViewOf', WHERE WHAT IT READS IS OF BULK AT MOST 1048576: true; the input reads as it did. -/
def viewOfUptoRow : OpenClaim := { program := "ytoicbojdnjcmiaa", sum := "6133d2cecb849779676d408edd3c9fec30279e9ad9d15e24d354c7f45de9e5f3", func := "zeitnot/zeitnotlaw31.ViewOf", spec := "viewOf", unfollowed := true, recurses := true, apart := false, narrowed := true }
def ViewOfUptoSaid : Prop := viewOfUptoRow.holds Try.pinned (OpenSpec.upto viewOfSpec)

/-- 'zeitnotlaw31.ViewHidden', WHERE WHAT IT READS IS OF BULK AT MOST 1048576: true; the input reads as it did. -/
def viewHiddenUptoRow : OpenClaim := { program := "ytoicbojdnjcmiaa", sum := "6133d2cecb849779676d408edd3c9fec30279e9ad9d15e24d354c7f45de9e5f3", func := "zeitnot/zeitnotlaw31.ViewHidden", spec := "viewHidden", unfollowed := true, recurses := true, apart := false, narrowed := true }
def ViewHiddenUptoSaid : Prop := viewHiddenUptoRow.holds Try.pinned (OpenSpec.upto viewHiddenSpec)

/-- 'zeitnotlaw31.ViewEncodes', WHERE WHAT IT READS IS OF BULK AT MOST 1048576: true; the input reads as it did. -/
def viewEncodesUptoRow : OpenClaim := { program := "ytoicbojdnjcmiaa", sum := "6133d2cecb849779676d408edd3c9fec30279e9ad9d15e24d354c7f45de9e5f3", func := "zeitnot/zeitnotlaw31.ViewEncodes", spec := "viewEncodes", unfollowed := true, recurses := true, apart := false, narrowed := true }
def ViewEncodesUptoSaid : Prop := viewEncodesUptoRow.holds Try.pinned (OpenSpec.upto viewEncodesSpec)

/-- 'zeitnotlaw31.ViewDecodes', WHERE WHAT IT READS IS OF BULK AT MOST 1048576: true; the input reads as it did. -/
def viewDecodesUptoRow : OpenClaim := { program := "ytoicbojdnjcmiaa", sum := "6133d2cecb849779676d408edd3c9fec30279e9ad9d15e24d354c7f45de9e5f3", func := "zeitnot/zeitnotlaw31.ViewDecodes", spec := "viewDecodes", unfollowed := true, recurses := true, apart := false, narrowed := true }
def ViewDecodesUptoSaid : Prop := viewDecodesUptoRow.holds Try.pinned (OpenSpec.upto viewDecodesSpec)

/-- 'zeitnotlaw31.ViewLongs', WHERE WHAT IT READS IS OF BULK AT MOST 1048576: true; the input reads as it did. -/
def viewLongsUptoRow : OpenClaim := { program := "ytoicbojdnjcmiaa", sum := "6133d2cecb849779676d408edd3c9fec30279e9ad9d15e24d354c7f45de9e5f3", func := "zeitnot/zeitnotlaw31.ViewLongs", spec := "viewLongs", unfollowed := true, recurses := true, apart := false, narrowed := true }
def ViewLongsUptoSaid : Prop := viewLongsUptoRow.holds Try.pinned (OpenSpec.upto viewLongsSpec)

/-- 'zeitnotlaw31.ViewHolds', WHERE WHAT IT READS IS OF BULK AT MOST 1048576: true; the input reads as it did. -/
def viewHoldsUptoRow : OpenClaim := { program := "ytoicbojdnjcmiaa", sum := "6133d2cecb849779676d408edd3c9fec30279e9ad9d15e24d354c7f45de9e5f3", func := "zeitnot/zeitnotlaw31.ViewHolds", spec := "viewHolds", unfollowed := true, recurses := true, apart := false, narrowed := true }
def ViewHoldsUptoSaid : Prop := viewHoldsUptoRow.holds Try.pinned (OpenSpec.upto viewHoldsSpec)

/-- 'zeitnotlaw31.ViewEqual', WHERE WHAT IT READS IS OF BULK AT MOST 1048576: true; the input reads as it did. -/
def viewEqualUptoRow : OpenClaim := { program := "ytoicbojdnjcmiaa", sum := "6133d2cecb849779676d408edd3c9fec30279e9ad9d15e24d354c7f45de9e5f3", func := "zeitnot/zeitnotlaw31.ViewEqual", spec := "viewEqual", unfollowed := true, recurses := true, apart := false, narrowed := true }
def ViewEqualUptoSaid : Prop := viewEqualUptoRow.holds Try.pinned (OpenSpec.upto viewEqualSpec)

end Rows
end Go.Proofs.Ytoicbojdnjcmiaa
