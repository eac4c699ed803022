/-
  NARROWER THAN 'FOR EVERY INPUT', by the rows' own cells (each row's printed sentence says how): PackNone: laid · PackHolds: laid · PackRecipes: laid · PackOpens: laid · PackFits: laid.
  DERIVED. THE GIVEN ROWS OF THIS SEAT. 5 by the template 'for every input the law returns true; each argument reads behind the call as it read before'; 0 by the template 'total and deterministic' (their statements: YtipmoghhmclelaaGreatDoorTotals.lean).
  GIVEN WITH THE SEED: the statements are not yours to turn. If you find one false, say at which input.
  Laid BY PROGRAM, IN A SANDBOX (cutbox-rows.mjs): the forced cells as the released guide's own fill.sh prints them over the translation efa61cfdf26fa462… (all of the seat's roots in one cut). By AI agents, Wed Nov 11 2026. No macro, syntax, notation, axiom, sorry.
-/
import Derived.Test.YtipmoghhmclelaaGreatDoorChecked
import GoSem.PinnedTables
import GoSem.Claim
import GoSem.ClaimJoined
import GoSem.ClaimMapViews
import Derived.JoinedTies
import Derived.KernelRfl
namespace Go.Proofs.YtipmoghhmclelaaGreatDoor
/- THE CELL 'sum', in the pinned program and in every row, IS THE sha256 OF THE DUMP (.gsa) THAT YtipmoghhmclelaaGreatDoorProg.lean LOADS. Nothing in Lean hashes anything: it is a label: what it is worth is what the hold of that sum in a sandbox is worth. -/
noncomputable def Tryz.pinned : Pinned := { name := "ytipmoghhmclelaagreatdoor", sum := "efa61cfdf26fa462cd07a885cc078f044e2f84afa24c4e4b7d79967aa58ae26d", checked := Tryz.checked }
namespace Rows
def none {H : Type} : Left H := { results := [], args := [] }

/- WHAT THE LISTED PACKAGE-LEVEL VARIABLES READ AS WHEN THE CALL BEGINS. Each datum BY PROGRAM (the guide's laid-datum.mjs) off the statement by which the dump's own 'gosem.cut.vars' lays the variable. In a bare row this is a premise. The card (YtipmoghhmclelaaGreatDoorCards.lean) ties it to the program's text. -/
def laid_unicode_utf8_acceptRanges {H : Type} : DataW H := .agg [.agg [.lit (.int .u8 128), .lit (.int .u8 191)], .agg [.lit (.int .u8 160), .lit (.int .u8 191)], .agg [.lit (.int .u8 128), .lit (.int .u8 159)], .agg [.lit (.int .u8 144), .lit (.int .u8 191)], .agg [.lit (.int .u8 128), .lit (.int .u8 143)], .agg [.lit (.int .u8 0), .lit (.int .u8 0)], .agg [.lit (.int .u8 0), .lit (.int .u8 0)], .agg [.lit (.int .u8 0), .lit (.int .u8 0)], .agg [.lit (.int .u8 0), .lit (.int .u8 0)], .agg [.lit (.int .u8 0), .lit (.int .u8 0)], .agg [.lit (.int .u8 0), .lit (.int .u8 0)], .agg [.lit (.int .u8 0), .lit (.int .u8 0)], .agg [.lit (.int .u8 0), .lit (.int .u8 0)], .agg [.lit (.int .u8 0), .lit (.int .u8 0)], .agg [.lit (.int .u8 0), .lit (.int .u8 0)], .agg [.lit (.int .u8 0), .lit (.int .u8 0)]]
/-- One of Go's own tables, pinned by name: the form's constant. -/
def laid_unicode_utf8_first : DataW Unit := Go.Pinned.utf8First

/-- 'zeitnotlaw44.PackNone': WHATEVER THE INPUT: true; the input reads as it did. -/
def packNoneSpec : ChangeSpec := { name := "packNone", fn := fun _ => fun
  | [d1, d2, d3] => { results := [.lit (.bool true)], args := [d1, d2, d3] }
  | _ => none }
def packNoneRow : OpenClaim := { program := "ytipmoghhmclelaagreatdoor", sum := "efa61cfdf26fa462cd07a885cc078f044e2f84afa24c4e4b7d79967aa58ae26d", func := "zeitnot/zeitnotlaw44.PackNone", spec := "packNone", inPlace := ["internal/bytealg.IndexByteString", "internal/bytealg.IndexString"], unfollowed := true, recurses := true, named := ["unicode/utf8.first", "unicode/utf8.acceptRanges", "internal/bytealg.MaxLen"], apart := false, laid := [("unicode/utf8.acceptRanges", laid_unicode_utf8_acceptRanges), ("unicode/utf8.first", laid_unicode_utf8_first)] }
def PackNoneSaid : Prop := packNoneRow.holds Tryz.pinned (OpenSpec.ofChange packNoneSpec)

/-- ITS FALSE NEIGHBOUR: 'it returns false'. Refute it at one input. -/
def packNoneWrong : ChangeSpec := { name := "packNone", fn := fun _ => fun
  | [d1, d2, d3] => { results := [.lit (.bool false)], args := [d1, d2, d3] }
  | _ => none }
def PackNoneWrongFalsely : Prop := packNoneRow.holds Tryz.pinned (OpenSpec.ofChange packNoneWrong)

/-- 'zeitnotlaw44.PackHolds': WHATEVER THE INPUT: true; the input reads as it did. -/
def packHoldsSpec : ChangeSpec := { name := "packHolds", fn := fun _ => fun
  | [d1, d2, d3] => { results := [.lit (.bool true)], args := [d1, d2, d3] }
  | _ => none }
def packHoldsRow : OpenClaim := { program := "ytipmoghhmclelaagreatdoor", sum := "efa61cfdf26fa462cd07a885cc078f044e2f84afa24c4e4b7d79967aa58ae26d", func := "zeitnot/zeitnotlaw44.PackHolds", spec := "packHolds", inPlace := ["internal/bytealg.IndexByteString", "internal/bytealg.IndexString"], unfollowed := true, recurses := true, named := ["unicode/utf8.first", "unicode/utf8.acceptRanges", "internal/bytealg.MaxLen"], apart := false, laid := [("unicode/utf8.acceptRanges", laid_unicode_utf8_acceptRanges), ("unicode/utf8.first", laid_unicode_utf8_first)] }
def PackHoldsSaid : Prop := packHoldsRow.holds Tryz.pinned (OpenSpec.ofChange packHoldsSpec)

/-- ITS FALSE NEIGHBOUR: 'it returns false'. Refute it at one input. -/
def packHoldsWrong : ChangeSpec := { name := "packHolds", fn := fun _ => fun
  | [d1, d2, d3] => { results := [.lit (.bool false)], args := [d1, d2, d3] }
  | _ => none }
def PackHoldsWrongFalsely : Prop := packHoldsRow.holds Tryz.pinned (OpenSpec.ofChange packHoldsWrong)

/-- 'zeitnotlaw44.PackRecipes': WHATEVER THE INPUT: true; the input reads as it did. -/
def packRecipesSpec : ChangeSpec := { name := "packRecipes", fn := fun _ => fun
  | [d1, d2, d3] => { results := [.lit (.bool true)], args := [d1, d2, d3] }
  | _ => none }
def packRecipesRow : OpenClaim := { program := "ytipmoghhmclelaagreatdoor", sum := "efa61cfdf26fa462cd07a885cc078f044e2f84afa24c4e4b7d79967aa58ae26d", func := "zeitnot/zeitnotlaw44.PackRecipes", spec := "packRecipes", inPlace := ["internal/bytealg.IndexByteString", "internal/bytealg.IndexString"], unfollowed := true, recurses := true, named := ["unicode/utf8.first", "unicode/utf8.acceptRanges", "internal/bytealg.MaxLen"], apart := false, laid := [("unicode/utf8.acceptRanges", laid_unicode_utf8_acceptRanges), ("unicode/utf8.first", laid_unicode_utf8_first)] }
def PackRecipesSaid : Prop := packRecipesRow.holds Tryz.pinned (OpenSpec.ofChange packRecipesSpec)

/-- ITS FALSE NEIGHBOUR: 'it returns false'. Refute it at one input. -/
def packRecipesWrong : ChangeSpec := { name := "packRecipes", fn := fun _ => fun
  | [d1, d2, d3] => { results := [.lit (.bool false)], args := [d1, d2, d3] }
  | _ => none }
def PackRecipesWrongFalsely : Prop := packRecipesRow.holds Tryz.pinned (OpenSpec.ofChange packRecipesWrong)

/-- 'zeitnotlaw44.PackOpens': WHATEVER THE INPUT: true; the input reads as it did. -/
def packOpensSpec : ChangeSpec := { name := "packOpens", fn := fun _ => fun
  | [d1, d2, d3, d4] => { results := [.lit (.bool true)], args := [d1, d2, d3, d4] }
  | _ => none }
def packOpensRow : OpenClaim := { program := "ytipmoghhmclelaagreatdoor", sum := "efa61cfdf26fa462cd07a885cc078f044e2f84afa24c4e4b7d79967aa58ae26d", func := "zeitnot/zeitnotlaw44.PackOpens", spec := "packOpens", inPlace := ["internal/bytealg.IndexByteString", "internal/bytealg.IndexString"], unfollowed := true, recurses := true, named := ["unicode/utf8.first", "unicode/utf8.acceptRanges", "internal/bytealg.MaxLen"], apart := false, laid := [("unicode/utf8.acceptRanges", laid_unicode_utf8_acceptRanges), ("unicode/utf8.first", laid_unicode_utf8_first)] }
def PackOpensSaid : Prop := packOpensRow.holds Tryz.pinned (OpenSpec.ofChange packOpensSpec)

/-- ITS FALSE NEIGHBOUR: 'it returns false'. Refute it at one input. -/
def packOpensWrong : ChangeSpec := { name := "packOpens", fn := fun _ => fun
  | [d1, d2, d3, d4] => { results := [.lit (.bool false)], args := [d1, d2, d3, d4] }
  | _ => none }
def PackOpensWrongFalsely : Prop := packOpensRow.holds Tryz.pinned (OpenSpec.ofChange packOpensWrong)

/-- 'zeitnotlaw44.PackFits': WHATEVER THE INPUT: true; the input reads as it did. -/
def packFitsSpec : ChangeSpec := { name := "packFits", fn := fun _ => fun
  | [d1, d2, d3] => { results := [.lit (.bool true)], args := [d1, d2, d3] }
  | _ => none }
def packFitsRow : OpenClaim := { program := "ytipmoghhmclelaagreatdoor", sum := "efa61cfdf26fa462cd07a885cc078f044e2f84afa24c4e4b7d79967aa58ae26d", func := "zeitnot/zeitnotlaw44.PackFits", spec := "packFits", inPlace := ["internal/bytealg.IndexByteString", "internal/bytealg.IndexString"], unfollowed := true, recurses := true, named := ["unicode/utf8.first", "unicode/utf8.acceptRanges", "internal/bytealg.MaxLen"], apart := false, laid := [("unicode/utf8.acceptRanges", laid_unicode_utf8_acceptRanges), ("unicode/utf8.first", laid_unicode_utf8_first)] }
def PackFitsSaid : Prop := packFitsRow.holds Tryz.pinned (OpenSpec.ofChange packFitsSpec)

/-- ITS FALSE NEIGHBOUR: 'it returns false'. Refute it at one input. -/
def packFitsWrong : ChangeSpec := { name := "packFits", fn := fun _ => fun
  | [d1, d2, d3] => { results := [.lit (.bool false)], args := [d1, d2, d3] }
  | _ => none }
def PackFitsWrongFalsely : Prop := packFitsRow.holds Tryz.pinned (OpenSpec.ofChange packFitsWrong)

/- THE SECOND FORM. 'bulk': how many values and letters a reading holds, each counted each time it is reached (what is shared counts as often as it is met; a slice's spare places count too). A statement '..UptoSaid' is the law's where the arguments, and the package variables that the reading takes, are together of bulk at most 1048576: NARROWER than '..Said'. Prove '..Said' where nothing that the law and all that it calls make is longer than what came in: it says more and counts as full. Else prove '..UptoSaid'. A law counts once. -/
mutual
def uptoBulk {H : Type} : DataW H → Nat
  | .lit (.string bytes) => bytes.length + 1
  | .lit _ => 1
  | .nil => 1
  | .ptr d => uptoBulk d + 1
  | .slice elems spare => uptoBulkAll elems + uptoBulkAll spare + 1
  | .agg parts => uptoBulkAll parts + 1
  | .iface _ d => uptoBulk d + 1
  | .map entries => uptoBulkEntries entries + 1
  | .held _ => 1
def uptoBulkAll {H : Type} : List (DataW H) → Nat
  | [] => 0
  | d :: r => uptoBulk d + uptoBulkAll r
def uptoBulkEntries {H : Type} : List (Lit × DataW H) → Nat
  | [] => 0
  | x :: r => uptoBulkEntry x + uptoBulkEntries r
def uptoBulkEntry {H : Type} : Lit × DataW H → Nat
  | (.string bytes, d) => bytes.length + uptoBulk d + 1
  | (_, d) => uptoBulk d + 1
 end
def uptoSmall : (H : Type) → List (DataW H) → Bool := fun _ ds => decide (uptoBulkAll ds ≤ 1048576)
def OpenSpec.upto (s : _root_.Go.ChangeSpec) : _root_.Go.OpenSpec := { _root_.Go.OpenSpec.ofChange s with cond := some uptoSmall }

/-- 'zeitnotlaw44.PackNone', WHERE WHAT IT READS IS OF BULK AT MOST 1048576: true; the input reads as it did. -/
def packNoneUptoRow : OpenClaim := { program := "ytipmoghhmclelaagreatdoor", sum := "efa61cfdf26fa462cd07a885cc078f044e2f84afa24c4e4b7d79967aa58ae26d", func := "zeitnot/zeitnotlaw44.PackNone", spec := "packNone", inPlace := ["internal/bytealg.IndexByteString", "internal/bytealg.IndexString"], unfollowed := true, recurses := true, named := ["unicode/utf8.first", "unicode/utf8.acceptRanges", "internal/bytealg.MaxLen"], apart := false, laid := [("unicode/utf8.acceptRanges", laid_unicode_utf8_acceptRanges), ("unicode/utf8.first", laid_unicode_utf8_first)], narrowed := true }
def PackNoneUptoSaid : Prop := packNoneUptoRow.holds Tryz.pinned (OpenSpec.upto packNoneSpec)

/-- 'zeitnotlaw44.PackHolds', WHERE WHAT IT READS IS OF BULK AT MOST 1048576: true; the input reads as it did. -/
def packHoldsUptoRow : OpenClaim := { program := "ytipmoghhmclelaagreatdoor", sum := "efa61cfdf26fa462cd07a885cc078f044e2f84afa24c4e4b7d79967aa58ae26d", func := "zeitnot/zeitnotlaw44.PackHolds", spec := "packHolds", inPlace := ["internal/bytealg.IndexByteString", "internal/bytealg.IndexString"], unfollowed := true, recurses := true, named := ["unicode/utf8.first", "unicode/utf8.acceptRanges", "internal/bytealg.MaxLen"], apart := false, laid := [("unicode/utf8.acceptRanges", laid_unicode_utf8_acceptRanges), ("unicode/utf8.first", laid_unicode_utf8_first)], narrowed := true }
def PackHoldsUptoSaid : Prop := packHoldsUptoRow.holds Tryz.pinned (OpenSpec.upto packHoldsSpec)

/-- 'zeitnotlaw44.PackRecipes', WHERE WHAT IT READS IS OF BULK AT MOST 1048576: true; the input reads as it did. -/
def packRecipesUptoRow : OpenClaim := { program := "ytipmoghhmclelaagreatdoor", sum := "efa61cfdf26fa462cd07a885cc078f044e2f84afa24c4e4b7d79967aa58ae26d", func := "zeitnot/zeitnotlaw44.PackRecipes", spec := "packRecipes", inPlace := ["internal/bytealg.IndexByteString", "internal/bytealg.IndexString"], unfollowed := true, recurses := true, named := ["unicode/utf8.first", "unicode/utf8.acceptRanges", "internal/bytealg.MaxLen"], apart := false, laid := [("unicode/utf8.acceptRanges", laid_unicode_utf8_acceptRanges), ("unicode/utf8.first", laid_unicode_utf8_first)], narrowed := true }
def PackRecipesUptoSaid : Prop := packRecipesUptoRow.holds Tryz.pinned (OpenSpec.upto packRecipesSpec)

/-- 'zeitnotlaw44.PackOpens', WHERE WHAT IT READS IS OF BULK AT MOST 1048576: true; the input reads as it did. -/
def packOpensUptoRow : OpenClaim := { program := "ytipmoghhmclelaagreatdoor", sum := "efa61cfdf26fa462cd07a885cc078f044e2f84afa24c4e4b7d79967aa58ae26d", func := "zeitnot/zeitnotlaw44.PackOpens", spec := "packOpens", inPlace := ["internal/bytealg.IndexByteString", "internal/bytealg.IndexString"], unfollowed := true, recurses := true, named := ["unicode/utf8.first", "unicode/utf8.acceptRanges", "internal/bytealg.MaxLen"], apart := false, laid := [("unicode/utf8.acceptRanges", laid_unicode_utf8_acceptRanges), ("unicode/utf8.first", laid_unicode_utf8_first)], narrowed := true }
def PackOpensUptoSaid : Prop := packOpensUptoRow.holds Tryz.pinned (OpenSpec.upto packOpensSpec)

/-- 'zeitnotlaw44.PackFits', WHERE WHAT IT READS IS OF BULK AT MOST 1048576: true; the input reads as it did. -/
def packFitsUptoRow : OpenClaim := { program := "ytipmoghhmclelaagreatdoor", sum := "efa61cfdf26fa462cd07a885cc078f044e2f84afa24c4e4b7d79967aa58ae26d", func := "zeitnot/zeitnotlaw44.PackFits", spec := "packFits", inPlace := ["internal/bytealg.IndexByteString", "internal/bytealg.IndexString"], unfollowed := true, recurses := true, named := ["unicode/utf8.first", "unicode/utf8.acceptRanges", "internal/bytealg.MaxLen"], apart := false, laid := [("unicode/utf8.acceptRanges", laid_unicode_utf8_acceptRanges), ("unicode/utf8.first", laid_unicode_utf8_first)], narrowed := true }
def PackFitsUptoSaid : Prop := packFitsUptoRow.holds Tryz.pinned (OpenSpec.upto packFitsSpec)

end Rows
end Go.Proofs.YtipmoghhmclelaaGreatDoor
