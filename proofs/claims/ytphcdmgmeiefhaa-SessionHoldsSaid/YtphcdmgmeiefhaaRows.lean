/-
  No cell of these rows narrows 'for every input' (looked for: loops, veiled, ifaces, maps, wideKeys, modest, calm, conditions, laid).
  DERIVED. THE GIVEN ROWS OF THIS SEAT. 5 by the template 'for every input the law returns true; each argument reads behind the call as it read before'; 0 by the template 'total and deterministic' (their statements: YtphcdmgmeiefhaaTotals.lean).
  GIVEN WITH THE SEED: the statements are not yours to turn. If you find one false, say at which input.
  Laid BY PROGRAM, IN A SANDBOX (cutbox-rows.mjs): the forced cells as the released guide's own fill.sh prints them over the translation 59755f99363864e3… (all of the seat's roots in one cut). By AI agents, Wed Nov 11 2026. No macro, syntax, notation, axiom, sorry.
-/
import Derived.Test.YtphcdmgmeiefhaaChecked
import GoSem.Claim
import GoSem.ClaimJoined
import GoSem.ClaimMapViews
import Derived.JoinedTies
import Derived.KernelRfl
namespace Go.Proofs.Ytphcdmgmeiefhaa
/- THE CELL 'sum', in the pinned program and in every row, IS THE sha256 OF THE DUMP (.gsa) THAT YtphcdmgmeiefhaaProg.lean LOADS. Nothing in Lean hashes anything: it is a label: what it is worth is what the hold of that sum in a sandbox is worth. -/
noncomputable def Try.pinned : Pinned := { name := "ytphcdmgmeiefhaa", sum := "59755f99363864e394eb1ea937a962f778562ce7e9163dcba70796cf81160843", checked := Try.checked }
namespace Rows
def none {H : Type} : Left H := { results := [], args := [] }

/-- 'zeitnotlaw30.SessionNew': WHATEVER THE INPUT: true; the input reads as it did. -/
def sessionNewSpec : ChangeSpec := { name := "sessionNew", fn := fun _ => fun
  | [d1, d2] => { results := [.lit (.bool true)], args := [d1, d2] }
  | _ => none }
def sessionNewRow : OpenClaim := { program := "ytphcdmgmeiefhaa", sum := "59755f99363864e394eb1ea937a962f778562ce7e9163dcba70796cf81160843", func := "zeitnot/zeitnotlaw30.SessionNew", spec := "sessionNew", unfollowed := true, recurses := true, apart := false }
def SessionNewSaid : Prop := sessionNewRow.holds Try.pinned (OpenSpec.ofChange sessionNewSpec)

/-- ITS FALSE NEIGHBOUR: 'it returns false'. Refute it at one input. -/
def sessionNewWrong : ChangeSpec := { name := "sessionNew", fn := fun _ => fun
  | [d1, d2] => { results := [.lit (.bool false)], args := [d1, d2] }
  | _ => none }
def SessionNewWrongFalsely : Prop := sessionNewRow.holds Try.pinned (OpenSpec.ofChange sessionNewWrong)

/-- 'zeitnotlaw30.SessionFulls': WHATEVER THE INPUT: true; the input reads as it did. -/
def sessionFullsSpec : ChangeSpec := { name := "sessionFulls", fn := fun _ => fun
  | [d] => { results := [.lit (.bool true)], args := [d] }
  | _ => none }
def sessionFullsRow : OpenClaim := { program := "ytphcdmgmeiefhaa", sum := "59755f99363864e394eb1ea937a962f778562ce7e9163dcba70796cf81160843", func := "zeitnot/zeitnotlaw30.SessionFulls", spec := "sessionFulls", unfollowed := true, recurses := true, apart := false }
def SessionFullsSaid : Prop := sessionFullsRow.holds Try.pinned (OpenSpec.ofChange sessionFullsSpec)

/-- ITS FALSE NEIGHBOUR: 'it returns false'. Refute it at one input. -/
def sessionFullsWrong : ChangeSpec := { name := "sessionFulls", fn := fun _ => fun
  | [d] => { results := [.lit (.bool false)], args := [d] }
  | _ => none }
def SessionFullsWrongFalsely : Prop := sessionFullsRow.holds Try.pinned (OpenSpec.ofChange sessionFullsWrong)

/-- 'zeitnotlaw30.SessionHolds': WHATEVER THE INPUT: true; the input reads as it did. -/
def sessionHoldsSpec : ChangeSpec := { name := "sessionHolds", fn := fun _ => fun
  | [d1, d2, d3] => { results := [.lit (.bool true)], args := [d1, d2, d3] }
  | _ => none }
def sessionHoldsRow : OpenClaim := { program := "ytphcdmgmeiefhaa", sum := "59755f99363864e394eb1ea937a962f778562ce7e9163dcba70796cf81160843", func := "zeitnot/zeitnotlaw30.SessionHolds", spec := "sessionHolds", unfollowed := true, recurses := true, apart := false }
def SessionHoldsSaid : Prop := sessionHoldsRow.holds Try.pinned (OpenSpec.ofChange sessionHoldsSpec)

/-- ITS FALSE NEIGHBOUR: 'it returns false'. Refute it at one input. -/
def sessionHoldsWrong : ChangeSpec := { name := "sessionHolds", fn := fun _ => fun
  | [d1, d2, d3] => { results := [.lit (.bool false)], args := [d1, d2, d3] }
  | _ => none }
def SessionHoldsWrongFalsely : Prop := sessionHoldsRow.holds Try.pinned (OpenSpec.ofChange sessionHoldsWrong)

/-- 'zeitnotlaw30.SessionPlays': WHATEVER THE INPUT: true; the input reads as it did. -/
def sessionPlaysSpec : ChangeSpec := { name := "sessionPlays", fn := fun _ => fun
  | [d1, d2, d3] => { results := [.lit (.bool true)], args := [d1, d2, d3] }
  | _ => none }
def sessionPlaysRow : OpenClaim := { program := "ytphcdmgmeiefhaa", sum := "59755f99363864e394eb1ea937a962f778562ce7e9163dcba70796cf81160843", func := "zeitnot/zeitnotlaw30.SessionPlays", spec := "sessionPlays", inPlace := ["maps.clone"], unfollowed := true, recurses := true, apart := false }
def SessionPlaysSaid : Prop := sessionPlaysRow.holds Try.pinned (OpenSpec.ofChange sessionPlaysSpec)

/-- ITS FALSE NEIGHBOUR: 'it returns false'. Refute it at one input. -/
def sessionPlaysWrong : ChangeSpec := { name := "sessionPlays", fn := fun _ => fun
  | [d1, d2, d3] => { results := [.lit (.bool false)], args := [d1, d2, d3] }
  | _ => none }
def SessionPlaysWrongFalsely : Prop := sessionPlaysRow.holds Try.pinned (OpenSpec.ofChange sessionPlaysWrong)

/-- 'zeitnotlaw30.SessionNone': WHATEVER THE INPUT: true; the input reads as it did. -/
def sessionNoneSpec : ChangeSpec := { name := "sessionNone", fn := fun _ => fun
  | [d1, d2] => { results := [.lit (.bool true)], args := [d1, d2] }
  | _ => none }
def sessionNoneRow : OpenClaim := { program := "ytphcdmgmeiefhaa", sum := "59755f99363864e394eb1ea937a962f778562ce7e9163dcba70796cf81160843", func := "zeitnot/zeitnotlaw30.SessionNone", spec := "sessionNone", inPlace := ["maps.clone"], unfollowed := true, recurses := true, apart := false }
def SessionNoneSaid : Prop := sessionNoneRow.holds Try.pinned (OpenSpec.ofChange sessionNoneSpec)

/-- ITS FALSE NEIGHBOUR: 'it returns false'. Refute it at one input. -/
def sessionNoneWrong : ChangeSpec := { name := "sessionNone", fn := fun _ => fun
  | [d1, d2] => { results := [.lit (.bool false)], args := [d1, d2] }
  | _ => none }
def SessionNoneWrongFalsely : Prop := sessionNoneRow.holds Try.pinned (OpenSpec.ofChange sessionNoneWrong)

/- THE SECOND FORM. 'bulk': how many values and letters a reading holds, each counted each time it is reached (what is shared counts as often as it is met; a slice's spare places count too). A statement '..UptoSaid' is the law's where the arguments, and the package variables that the reading takes, are together of bulk at most 1048576: NARROWER than '..Said'. Prove '..Said' where nothing that the law and all that it calls make is longer than what came in: it says more and counts as full. Else prove '..UptoSaid'. A law counts once. -/
mutual
def uptoBulk {H : Type} : DataW H → Nat
  | .lit (.string bytes) => bytes.length + 1
  | .lit _ => 1
  | .nil => 1
  | .ptr d => uptoBulk d + 1
  | .slice elems spare => uptoBulkAll elems + uptoBulkAll spare + 1
  | .agg parts => uptoBulkAll parts + 1
  | .iface _ d => uptoBulk d + 1
  | .map entries => uptoBulkEntries entries + 1
  | .held _ => 1
def uptoBulkAll {H : Type} : List (DataW H) → Nat
  | [] => 0
  | d :: r => uptoBulk d + uptoBulkAll r
def uptoBulkEntries {H : Type} : List (Lit × DataW H) → Nat
  | [] => 0
  | x :: r => uptoBulkEntry x + uptoBulkEntries r
def uptoBulkEntry {H : Type} : Lit × DataW H → Nat
  | (.string bytes, d) => bytes.length + uptoBulk d + 1
  | (_, d) => uptoBulk d + 1
 end
def uptoSmall : (H : Type) → List (DataW H) → Bool := fun _ ds => decide (uptoBulkAll ds ≤ 1048576)
def OpenSpec.upto (s : _root_.Go.ChangeSpec) : _root_.Go.OpenSpec := { _root_.Go.OpenSpec.ofChange s with cond := some uptoSmall }

/-- 'zeitnotlaw30.SessionNew', WHERE WHAT IT READS IS OF BULK AT MOST 1048576: true; the input reads as it did. -/
def sessionNewUptoRow : OpenClaim := { program := "ytphcdmgmeiefhaa", sum := "59755f99363864e394eb1ea937a962f778562ce7e9163dcba70796cf81160843", func := "zeitnot/zeitnotlaw30.SessionNew", spec := "sessionNew", unfollowed := true, recurses := true, apart := false, narrowed := true }
def SessionNewUptoSaid : Prop := sessionNewUptoRow.holds Try.pinned (OpenSpec.upto sessionNewSpec)

/-- 'zeitnotlaw30.SessionFulls', WHERE WHAT IT READS IS OF BULK AT MOST 1048576: true; the input reads as it did. -/
def sessionFullsUptoRow : OpenClaim := { program := "ytphcdmgmeiefhaa", sum := "59755f99363864e394eb1ea937a962f778562ce7e9163dcba70796cf81160843", func := "zeitnot/zeitnotlaw30.SessionFulls", spec := "sessionFulls", unfollowed := true, recurses := true, apart := false, narrowed := true }
def SessionFullsUptoSaid : Prop := sessionFullsUptoRow.holds Try.pinned (OpenSpec.upto sessionFullsSpec)

/-- 'zeitnotlaw30.SessionHolds', WHERE WHAT IT READS IS OF BULK AT MOST 1048576: true; the input reads as it did. -/
def sessionHoldsUptoRow : OpenClaim := { program := "ytphcdmgmeiefhaa", sum := "59755f99363864e394eb1ea937a962f778562ce7e9163dcba70796cf81160843", func := "zeitnot/zeitnotlaw30.SessionHolds", spec := "sessionHolds", unfollowed := true, recurses := true, apart := false, narrowed := true }
def SessionHoldsUptoSaid : Prop := sessionHoldsUptoRow.holds Try.pinned (OpenSpec.upto sessionHoldsSpec)

/-- 'zeitnotlaw30.SessionPlays', WHERE WHAT IT READS IS OF BULK AT MOST 1048576: true; the input reads as it did. -/
def sessionPlaysUptoRow : OpenClaim := { program := "ytphcdmgmeiefhaa", sum := "59755f99363864e394eb1ea937a962f778562ce7e9163dcba70796cf81160843", func := "zeitnot/zeitnotlaw30.SessionPlays", spec := "sessionPlays", inPlace := ["maps.clone"], unfollowed := true, recurses := true, apart := false, narrowed := true }
def SessionPlaysUptoSaid : Prop := sessionPlaysUptoRow.holds Try.pinned (OpenSpec.upto sessionPlaysSpec)

/-- 'zeitnotlaw30.SessionNone', WHERE WHAT IT READS IS OF BULK AT MOST 1048576: true; the input reads as it did. -/
def sessionNoneUptoRow : OpenClaim := { program := "ytphcdmgmeiefhaa", sum := "59755f99363864e394eb1ea937a962f778562ce7e9163dcba70796cf81160843", func := "zeitnot/zeitnotlaw30.SessionNone", spec := "sessionNone", inPlace := ["maps.clone"], unfollowed := true, recurses := true, apart := false, narrowed := true }
def SessionNoneUptoSaid : Prop := sessionNoneUptoRow.holds Try.pinned (OpenSpec.upto sessionNoneSpec)

end Rows
end Go.Proofs.Ytphcdmgmeiefhaa
