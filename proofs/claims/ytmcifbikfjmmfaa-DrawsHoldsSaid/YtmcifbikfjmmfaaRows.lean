/-
  No cell of these rows narrows 'for every input' (looked for: loops, veiled, ifaces, maps, wideKeys, modest, calm, conditions, laid).
  DERIVED. THE GIVEN ROWS OF THIS SEAT. 5 by the template 'for every input the law returns true; each argument reads behind the call as it read before'; 0 by the template 'total and deterministic' (their statements: YtmcifbikfjmmfaaTotals.lean).
  GIVEN WITH THE SEED: the statements are not yours to turn. If you find one false, say at which input.
  Laid BY PROGRAM, IN A SANDBOX (cutbox-rows.mjs): the forced cells as the released guide's own fill.sh prints them over the translation e27bd46c703387b0… (all of the seat's roots in one cut). By AI agents, Wed Nov 11 2026. No macro, syntax, notation, axiom, sorry.
-/
import Derived.Test.YtmcifbikfjmmfaaChecked
import GoSem.Claim
import GoSem.ClaimJoined
import GoSem.ClaimMapViews
import Derived.JoinedTies
import Derived.KernelRfl
namespace Go.Proofs.Ytmcifbikfjmmfaa
/- THE CELL 'sum', in the pinned program and in every row, IS THE sha256 OF THE DUMP (.gsa) THAT YtmcifbikfjmmfaaProg.lean LOADS. Nothing in Lean hashes anything: it is a label: what it is worth is what the hold of that sum in a sandbox is worth. -/
noncomputable def Try.pinned : Pinned := { name := "ytmcifbikfjmmfaa", sum := "e27bd46c703387b099eee0e44248aadeb68452c6f97dca0b703aa00d1a4d4f08", checked := Try.checked }
namespace Rows
def none {H : Type} : Left H := { results := [], args := [] }

/-- 'zeitnotlaw02.DrawsOrders': WHATEVER THE INPUT: true; the input reads as it did. -/
def drawsOrdersSpec : ChangeSpec := { name := "drawsOrders", fn := fun _ => fun
  | [d1, d2] => { results := [.lit (.bool true)], args := [d1, d2] }
  | _ => none }
def drawsOrdersRow : OpenClaim := { program := "ytmcifbikfjmmfaa", sum := "e27bd46c703387b099eee0e44248aadeb68452c6f97dca0b703aa00d1a4d4f08", func := "zeitnot/zeitnotlaw02.DrawsOrders", spec := "drawsOrders", recurses := true, plainKeys := false, apart := false }
def DrawsOrdersSaid : Prop := drawsOrdersRow.holds Try.pinned (OpenSpec.ofChange drawsOrdersSpec)

/-- ITS FALSE NEIGHBOUR: 'it returns false'. Refute it at one input. -/
def drawsOrdersWrong : ChangeSpec := { name := "drawsOrders", fn := fun _ => fun
  | [d1, d2] => { results := [.lit (.bool false)], args := [d1, d2] }
  | _ => none }
def DrawsOrdersWrongFalsely : Prop := drawsOrdersRow.holds Try.pinned (OpenSpec.ofChange drawsOrdersWrong)

/-- 'zeitnotlaw02.DrawsLongs': WHATEVER THE INPUT: true; the input reads as it did. -/
def drawsLongsSpec : ChangeSpec := { name := "drawsLongs", fn := fun _ => fun
  | [d1, d2] => { results := [.lit (.bool true)], args := [d1, d2] }
  | _ => none }
def drawsLongsRow : OpenClaim := { program := "ytmcifbikfjmmfaa", sum := "e27bd46c703387b099eee0e44248aadeb68452c6f97dca0b703aa00d1a4d4f08", func := "zeitnot/zeitnotlaw02.DrawsLongs", spec := "drawsLongs", recurses := true, plainKeys := false, apart := false }
def DrawsLongsSaid : Prop := drawsLongsRow.holds Try.pinned (OpenSpec.ofChange drawsLongsSpec)

/-- ITS FALSE NEIGHBOUR: 'it returns false'. Refute it at one input. -/
def drawsLongsWrong : ChangeSpec := { name := "drawsLongs", fn := fun _ => fun
  | [d1, d2] => { results := [.lit (.bool false)], args := [d1, d2] }
  | _ => none }
def DrawsLongsWrongFalsely : Prop := drawsLongsRow.holds Try.pinned (OpenSpec.ofChange drawsLongsWrong)

/-- 'zeitnotlaw02.DrawsHolds': WHATEVER THE INPUT: true; the input reads as it did. -/
def drawsHoldsSpec : ChangeSpec := { name := "drawsHolds", fn := fun _ => fun
  | [d1, d2] => { results := [.lit (.bool true)], args := [d1, d2] }
  | _ => none }
def drawsHoldsRow : OpenClaim := { program := "ytmcifbikfjmmfaa", sum := "e27bd46c703387b099eee0e44248aadeb68452c6f97dca0b703aa00d1a4d4f08", func := "zeitnot/zeitnotlaw02.DrawsHolds", spec := "drawsHolds", recurses := true, plainKeys := false, apart := false }
def DrawsHoldsSaid : Prop := drawsHoldsRow.holds Try.pinned (OpenSpec.ofChange drawsHoldsSpec)

/-- ITS FALSE NEIGHBOUR: 'it returns false'. Refute it at one input. -/
def drawsHoldsWrong : ChangeSpec := { name := "drawsHolds", fn := fun _ => fun
  | [d1, d2] => { results := [.lit (.bool false)], args := [d1, d2] }
  | _ => none }
def DrawsHoldsWrongFalsely : Prop := drawsHoldsRow.holds Try.pinned (OpenSpec.ofChange drawsHoldsWrong)

/-- 'zeitnotlaw02.DrawsPlays': WHATEVER THE INPUT: true; the input reads as it did. -/
def drawsPlaysSpec : ChangeSpec := { name := "drawsPlays", fn := fun _ => fun
  | [d1, d2] => { results := [.lit (.bool true)], args := [d1, d2] }
  | _ => none }
def drawsPlaysRow : OpenClaim := { program := "ytmcifbikfjmmfaa", sum := "e27bd46c703387b099eee0e44248aadeb68452c6f97dca0b703aa00d1a4d4f08", func := "zeitnot/zeitnotlaw02.DrawsPlays", spec := "drawsPlays", recurses := true, plainKeys := false, apart := false }
def DrawsPlaysSaid : Prop := drawsPlaysRow.holds Try.pinned (OpenSpec.ofChange drawsPlaysSpec)

/-- ITS FALSE NEIGHBOUR: 'it returns false'. Refute it at one input. -/
def drawsPlaysWrong : ChangeSpec := { name := "drawsPlays", fn := fun _ => fun
  | [d1, d2] => { results := [.lit (.bool false)], args := [d1, d2] }
  | _ => none }
def DrawsPlaysWrongFalsely : Prop := drawsPlaysRow.holds Try.pinned (OpenSpec.ofChange drawsPlaysWrong)

/-- 'zeitnotlaw02.DrawsNil': WHATEVER THE INPUT: true; the input reads as it did. -/
def drawsNilSpec : ChangeSpec := { name := "drawsNil", fn := fun _ => fun
  | [d1, d2] => { results := [.lit (.bool true)], args := [d1, d2] }
  | _ => none }
def drawsNilRow : OpenClaim := { program := "ytmcifbikfjmmfaa", sum := "e27bd46c703387b099eee0e44248aadeb68452c6f97dca0b703aa00d1a4d4f08", func := "zeitnot/zeitnotlaw02.DrawsNil", spec := "drawsNil", recurses := true, plainKeys := false, apart := false }
def DrawsNilSaid : Prop := drawsNilRow.holds Try.pinned (OpenSpec.ofChange drawsNilSpec)

/-- ITS FALSE NEIGHBOUR: 'it returns false'. Refute it at one input. -/
def drawsNilWrong : ChangeSpec := { name := "drawsNil", fn := fun _ => fun
  | [d1, d2] => { results := [.lit (.bool false)], args := [d1, d2] }
  | _ => none }
def DrawsNilWrongFalsely : Prop := drawsNilRow.holds Try.pinned (OpenSpec.ofChange drawsNilWrong)

/- THE SECOND FORM. 'bulk': how many values and letters a reading holds, each counted each time it is reached (what is shared counts as often as it is met; a slice's spare places count too). A statement '..UptoSaid' is the law's where the arguments, and the package variables that the reading takes, are together of bulk at most 1048576: NARROWER than '..Said'. Prove '..Said' where nothing that the law and all that it calls make is longer than what came in: it says more and counts as full. Else prove '..UptoSaid'. A law counts once. -/
mutual
def uptoBulk {H : Type} : DataW H → Nat
  | .lit (.string bytes) => bytes.length + 1
  | .lit _ => 1
  | .nil => 1
  | .ptr d => uptoBulk d + 1
  | .slice elems spare => uptoBulkAll elems + uptoBulkAll spare + 1
  | .agg parts => uptoBulkAll parts + 1
  | .iface _ d => uptoBulk d + 1
  | .map entries => uptoBulkEntries entries + 1
  | .held _ => 1
def uptoBulkAll {H : Type} : List (DataW H) → Nat
  | [] => 0
  | d :: r => uptoBulk d + uptoBulkAll r
def uptoBulkEntries {H : Type} : List (Lit × DataW H) → Nat
  | [] => 0
  | x :: r => uptoBulkEntry x + uptoBulkEntries r
def uptoBulkEntry {H : Type} : Lit × DataW H → Nat
  | (.string bytes, d) => bytes.length + uptoBulk d + 1
  | (_, d) => uptoBulk d + 1
 end
def uptoSmall : (H : Type) → List (DataW H) → Bool := fun _ ds => decide (uptoBulkAll ds ≤ 1048576)
def OpenSpec.upto (s : _root_.Go.ChangeSpec) : _root_.Go.OpenSpec := { _root_.Go.OpenSpec.ofChange s with cond := some uptoSmall }

/-- 'zeitnotlaw02.DrawsOrders', WHERE WHAT IT READS IS OF BULK AT MOST 1048576: true; the input reads as it did. -/
def drawsOrdersUptoRow : OpenClaim := { program := "ytmcifbikfjmmfaa", sum := "e27bd46c703387b099eee0e44248aadeb68452c6f97dca0b703aa00d1a4d4f08", func := "zeitnot/zeitnotlaw02.DrawsOrders", spec := "drawsOrders", recurses := true, plainKeys := false, apart := false, narrowed := true }
def DrawsOrdersUptoSaid : Prop := drawsOrdersUptoRow.holds Try.pinned (OpenSpec.upto drawsOrdersSpec)

/-- 'zeitnotlaw02.DrawsLongs', WHERE WHAT IT READS IS OF BULK AT MOST 1048576: true; the input reads as it did. -/
def drawsLongsUptoRow : OpenClaim := { program := "ytmcifbikfjmmfaa", sum := "e27bd46c703387b099eee0e44248aadeb68452c6f97dca0b703aa00d1a4d4f08", func := "zeitnot/zeitnotlaw02.DrawsLongs", spec := "drawsLongs", recurses := true, plainKeys := false, apart := false, narrowed := true }
def DrawsLongsUptoSaid : Prop := drawsLongsUptoRow.holds Try.pinned (OpenSpec.upto drawsLongsSpec)

/-- 'zeitnotlaw02.DrawsHolds', WHERE WHAT IT READS IS OF BULK AT MOST 1048576: true; the input reads as it did. -/
def drawsHoldsUptoRow : OpenClaim := { program := "ytmcifbikfjmmfaa", sum := "e27bd46c703387b099eee0e44248aadeb68452c6f97dca0b703aa00d1a4d4f08", func := "zeitnot/zeitnotlaw02.DrawsHolds", spec := "drawsHolds", recurses := true, plainKeys := false, apart := false, narrowed := true }
def DrawsHoldsUptoSaid : Prop := drawsHoldsUptoRow.holds Try.pinned (OpenSpec.upto drawsHoldsSpec)

/-- 'zeitnotlaw02.DrawsPlays', WHERE WHAT IT READS IS OF BULK AT MOST 1048576: true; the input reads as it did. -/
def drawsPlaysUptoRow : OpenClaim := { program := "ytmcifbikfjmmfaa", sum := "e27bd46c703387b099eee0e44248aadeb68452c6f97dca0b703aa00d1a4d4f08", func := "zeitnot/zeitnotlaw02.DrawsPlays", spec := "drawsPlays", recurses := true, plainKeys := false, apart := false, narrowed := true }
def DrawsPlaysUptoSaid : Prop := drawsPlaysUptoRow.holds Try.pinned (OpenSpec.upto drawsPlaysSpec)

/-- 'zeitnotlaw02.DrawsNil', WHERE WHAT IT READS IS OF BULK AT MOST 1048576: true; the input reads as it did. -/
def drawsNilUptoRow : OpenClaim := { program := "ytmcifbikfjmmfaa", sum := "e27bd46c703387b099eee0e44248aadeb68452c6f97dca0b703aa00d1a4d4f08", func := "zeitnot/zeitnotlaw02.DrawsNil", spec := "drawsNil", recurses := true, plainKeys := false, apart := false, narrowed := true }
def DrawsNilUptoSaid : Prop := drawsNilUptoRow.holds Try.pinned (OpenSpec.upto drawsNilSpec)

end Rows
end Go.Proofs.Ytmcifbikfjmmfaa
