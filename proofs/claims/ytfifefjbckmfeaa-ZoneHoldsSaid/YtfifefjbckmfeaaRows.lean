/-
  No cell of these rows narrows 'for every input' (looked for: loops, veiled, ifaces, maps, wideKeys, modest, calm, conditions, laid).
  DERIVED. THE GIVEN ROWS OF THIS SEAT. 4 by the template 'for every input the law returns true; each argument reads behind the call as it read before'; 0 by the template 'total and deterministic' (their statements: YtfifefjbckmfeaaTotals.lean).
  GIVEN WITH THE SEED: the statements are not yours to turn. If you find one false, say at which input.
  Laid BY PROGRAM, IN A SANDBOX (cutbox-rows.mjs): the forced cells as the released guide's own fill.sh prints them over the translation 73bd9626cdce21ec… (all of the seat's roots in one cut). By AI agents, Wed Nov 11 2026. No macro, syntax, notation, axiom, sorry.
-/
import Derived.Test.YtfifefjbckmfeaaChecked
import GoSem.Claim
import GoSem.ClaimJoined
import GoSem.ClaimMapViews
import Derived.JoinedTies
import Derived.KernelRfl
namespace Go.Proofs.Ytfifefjbckmfeaa
/- THE CELL 'sum', in the pinned program and in every row, IS THE sha256 OF THE DUMP (.gsa) THAT YtfifefjbckmfeaaProg.lean LOADS. Nothing in Lean hashes anything: it is a label: what it is worth is what the hold of that sum in a sandbox is worth. -/
noncomputable def Try.pinned : Pinned := { name := "ytfifefjbckmfeaa", sum := "73bd9626cdce21ec3dca0b5b5ef610a1356b3a16924ce3815083ee82c4dd82e5", checked := Try.checked }
namespace Rows
def none {H : Type} : Left H := { results := [], args := [] }

/-- 'zeitnotlaw04.ZoneNames': WHATEVER THE INPUT: true; the input reads as it did. -/
def zoneNamesSpec : ChangeSpec := { name := "zoneNames", fn := fun _ => fun
  | [d1, d2] => { results := [.lit (.bool true)], args := [d1, d2] }
  | _ => none }
def zoneNamesRow : OpenClaim := { program := "ytfifefjbckmfeaa", sum := "73bd9626cdce21ec3dca0b5b5ef610a1356b3a16924ce3815083ee82c4dd82e5", func := "zeitnot/zeitnotlaw04.ZoneNames", spec := "zoneNames", unfollowed := true, recurses := true, apart := false }
def ZoneNamesSaid : Prop := zoneNamesRow.holds Try.pinned (OpenSpec.ofChange zoneNamesSpec)

/-- ITS FALSE NEIGHBOUR: 'it returns false'. Refute it at one input. -/
def zoneNamesWrong : ChangeSpec := { name := "zoneNames", fn := fun _ => fun
  | [d1, d2] => { results := [.lit (.bool false)], args := [d1, d2] }
  | _ => none }
def ZoneNamesWrongFalsely : Prop := zoneNamesRow.holds Try.pinned (OpenSpec.ofChange zoneNamesWrong)

/-- 'zeitnotlaw04.ZoneMany': WHATEVER THE INPUT: true; the input reads as it did. -/
def zoneManySpec : ChangeSpec := { name := "zoneMany", fn := fun _ => fun
  | [d1, d2] => { results := [.lit (.bool true)], args := [d1, d2] }
  | _ => none }
def zoneManyRow : OpenClaim := { program := "ytfifefjbckmfeaa", sum := "73bd9626cdce21ec3dca0b5b5ef610a1356b3a16924ce3815083ee82c4dd82e5", func := "zeitnot/zeitnotlaw04.ZoneMany", spec := "zoneMany", unfollowed := true, recurses := true, apart := false }
def ZoneManySaid : Prop := zoneManyRow.holds Try.pinned (OpenSpec.ofChange zoneManySpec)

/-- ITS FALSE NEIGHBOUR: 'it returns false'. Refute it at one input. -/
def zoneManyWrong : ChangeSpec := { name := "zoneMany", fn := fun _ => fun
  | [d1, d2] => { results := [.lit (.bool false)], args := [d1, d2] }
  | _ => none }
def ZoneManyWrongFalsely : Prop := zoneManyRow.holds Try.pinned (OpenSpec.ofChange zoneManyWrong)

/-- 'zeitnotlaw04.ZoneHolds': WHATEVER THE INPUT: true; the input reads as it did. -/
def zoneHoldsSpec : ChangeSpec := { name := "zoneHolds", fn := fun _ => fun
  | [d1, d2] => { results := [.lit (.bool true)], args := [d1, d2] }
  | _ => none }
def zoneHoldsRow : OpenClaim := { program := "ytfifefjbckmfeaa", sum := "73bd9626cdce21ec3dca0b5b5ef610a1356b3a16924ce3815083ee82c4dd82e5", func := "zeitnot/zeitnotlaw04.ZoneHolds", spec := "zoneHolds", unfollowed := true, recurses := true, apart := false }
def ZoneHoldsSaid : Prop := zoneHoldsRow.holds Try.pinned (OpenSpec.ofChange zoneHoldsSpec)

/-- ITS FALSE NEIGHBOUR: 'it returns false'. Refute it at one input. -/
def zoneHoldsWrong : ChangeSpec := { name := "zoneHolds", fn := fun _ => fun
  | [d1, d2] => { results := [.lit (.bool false)], args := [d1, d2] }
  | _ => none }
def ZoneHoldsWrongFalsely : Prop := zoneHoldsRow.holds Try.pinned (OpenSpec.ofChange zoneHoldsWrong)

/-- 'zeitnotlaw04.ZoneNil': WHATEVER THE INPUT: true; the input reads as it did. -/
def zoneNilSpec : ChangeSpec := { name := "zoneNil", fn := fun _ => fun
  | [d1, d2] => { results := [.lit (.bool true)], args := [d1, d2] }
  | _ => none }
def zoneNilRow : OpenClaim := { program := "ytfifefjbckmfeaa", sum := "73bd9626cdce21ec3dca0b5b5ef610a1356b3a16924ce3815083ee82c4dd82e5", func := "zeitnot/zeitnotlaw04.ZoneNil", spec := "zoneNil", inPlace := ["maps.clone"], unfollowed := true, recurses := true, apart := false }
def ZoneNilSaid : Prop := zoneNilRow.holds Try.pinned (OpenSpec.ofChange zoneNilSpec)

/-- ITS FALSE NEIGHBOUR: 'it returns false'. Refute it at one input. -/
def zoneNilWrong : ChangeSpec := { name := "zoneNil", fn := fun _ => fun
  | [d1, d2] => { results := [.lit (.bool false)], args := [d1, d2] }
  | _ => none }
def ZoneNilWrongFalsely : Prop := zoneNilRow.holds Try.pinned (OpenSpec.ofChange zoneNilWrong)

/- THE SECOND FORM. 'bulk': how many values and letters a reading holds, each counted each time it is reached (what is shared counts as often as it is met; a slice's spare places count too). A statement '..UptoSaid' is the law's where the arguments, and the package variables that the reading takes, are together of bulk at most 1048576: NARROWER than '..Said'. Prove '..Said' where nothing that the law and all that it calls make is longer than what came in: it says more and counts as full. Else prove '..UptoSaid'. A law counts once. -/
mutual
def uptoBulk {H : Type} : DataW H → Nat
  | .lit (.string bytes) => bytes.length + 1
  | .lit _ => 1
  | .nil => 1
  | .ptr d => uptoBulk d + 1
  | .slice elems spare => uptoBulkAll elems + uptoBulkAll spare + 1
  | .agg parts => uptoBulkAll parts + 1
  | .iface _ d => uptoBulk d + 1
  | .map entries => uptoBulkEntries entries + 1
  | .held _ => 1
def uptoBulkAll {H : Type} : List (DataW H) → Nat
  | [] => 0
  | d :: r => uptoBulk d + uptoBulkAll r
def uptoBulkEntries {H : Type} : List (Lit × DataW H) → Nat
  | [] => 0
  | x :: r => uptoBulkEntry x + uptoBulkEntries r
def uptoBulkEntry {H : Type} : Lit × DataW H → Nat
  | (.string bytes, d) => bytes.length + uptoBulk d + 1
  | (_, d) => uptoBulk d + 1
 end
def uptoSmall : (H : Type) → List (DataW H) → Bool := fun _ ds => decide (uptoBulkAll ds ≤ 1048576)
def OpenSpec.upto (s : _root_.Go.ChangeSpec) : _root_.Go.OpenSpec := { _root_.Go.OpenSpec.ofChange s with cond := some uptoSmall }

/-- 'zeitnotlaw04.ZoneNames', WHERE WHAT IT READS IS OF BULK AT MOST 1048576: true; the input reads as it did. -/
def zoneNamesUptoRow : OpenClaim := { program := "ytfifefjbckmfeaa", sum := "73bd9626cdce21ec3dca0b5b5ef610a1356b3a16924ce3815083ee82c4dd82e5", func := "zeitnot/zeitnotlaw04.ZoneNames", spec := "zoneNames", unfollowed := true, recurses := true, apart := false, narrowed := true }
def ZoneNamesUptoSaid : Prop := zoneNamesUptoRow.holds Try.pinned (OpenSpec.upto zoneNamesSpec)

/-- 'zeitnotlaw04.ZoneMany', WHERE WHAT IT READS IS OF BULK AT MOST 1048576: true; the input reads as it did. -/
def zoneManyUptoRow : OpenClaim := { program := "ytfifefjbckmfeaa", sum := "73bd9626cdce21ec3dca0b5b5ef610a1356b3a16924ce3815083ee82c4dd82e5", func := "zeitnot/zeitnotlaw04.ZoneMany", spec := "zoneMany", unfollowed := true, recurses := true, apart := false, narrowed := true }
def ZoneManyUptoSaid : Prop := zoneManyUptoRow.holds Try.pinned (OpenSpec.upto zoneManySpec)

/-- 'zeitnotlaw04.ZoneHolds', WHERE WHAT IT READS IS OF BULK AT MOST 1048576: true; the input reads as it did. -/
def zoneHoldsUptoRow : OpenClaim := { program := "ytfifefjbckmfeaa", sum := "73bd9626cdce21ec3dca0b5b5ef610a1356b3a16924ce3815083ee82c4dd82e5", func := "zeitnot/zeitnotlaw04.ZoneHolds", spec := "zoneHolds", unfollowed := true, recurses := true, apart := false, narrowed := true }
def ZoneHoldsUptoSaid : Prop := zoneHoldsUptoRow.holds Try.pinned (OpenSpec.upto zoneHoldsSpec)

/-- 'zeitnotlaw04.ZoneNil', WHERE WHAT IT READS IS OF BULK AT MOST 1048576: true; the input reads as it did. -/
def zoneNilUptoRow : OpenClaim := { program := "ytfifefjbckmfeaa", sum := "73bd9626cdce21ec3dca0b5b5ef610a1356b3a16924ce3815083ee82c4dd82e5", func := "zeitnot/zeitnotlaw04.ZoneNil", spec := "zoneNil", inPlace := ["maps.clone"], unfollowed := true, recurses := true, apart := false, narrowed := true }
def ZoneNilUptoSaid : Prop := zoneNilUptoRow.holds Try.pinned (OpenSpec.upto zoneNilSpec)

end Rows
end Go.Proofs.Ytfifefjbckmfeaa
