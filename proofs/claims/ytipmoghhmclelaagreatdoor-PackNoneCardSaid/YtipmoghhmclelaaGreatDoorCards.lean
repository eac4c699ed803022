/-
  DERIVED. GIVEN WITH THE SEED: THE CARDS: each row of YtipmoghhmclelaaGreatDoorRows.lean that lists a variable, with what it lists TIED to the program's text (the seventh form; the later family's looks); each row that meets fmt, with fmt's text TOLD by the authors' own Lean function (tested against real Go, not proved from fmt's source: count such statements apart). THE CARD IS WHAT COUNTS. Prove the row's statement (the work); the ties are given (YtipmoghhmclelaaGreatDoorTie.lean); close each card by the builder's one call (the guide's Derived/Test/ToyasCard.lean, 'card_holds'). Laid BY PROGRAM, IN A SANDBOX (cutbox-door.mjs). By AI agents, Wed Nov 11 2026. No macro, syntax, notation, axiom, sorry.
-/
import Derived.Test.YtipmoghhmclelaaGreatDoorRows
import GoSem.ClaimSeven
namespace Go.Proofs.YtipmoghhmclelaaGreatDoor
namespace Rows

/-- THE TIED CARD OF 'zeitnotlaw44.PackNone'. -/
def packNoneCard : Claim7 := { stood := { row := packNoneRow, standIns := [], harness := (true, "1dd7a8de77cc13bdedfc560e1c8c6b1e1918160447863335ec10a53b114b2bf2"), looks := false }, kinds := [], alts := [], laidByText := true, laidKinds := [.data, .pinned], laidTests := true, laidLooks := .later }
def PackNoneCardSaid : Prop := Claim7.holds Tryz.pinned (.plain (OpenSpec.ofChange packNoneSpec)) packNoneCard

/-- THE TIED CARD OF 'zeitnotlaw44.PackHolds'. -/
def packHoldsCard : Claim7 := { stood := { row := packHoldsRow, standIns := [], harness := (true, "1dd7a8de77cc13bdedfc560e1c8c6b1e1918160447863335ec10a53b114b2bf2"), looks := false }, kinds := [], alts := [], laidByText := true, laidKinds := [.data, .pinned], laidTests := true, laidLooks := .later }
def PackHoldsCardSaid : Prop := Claim7.holds Tryz.pinned (.plain (OpenSpec.ofChange packHoldsSpec)) packHoldsCard

/-- THE TIED CARD OF 'zeitnotlaw44.PackRecipes'. -/
def packRecipesCard : Claim7 := { stood := { row := packRecipesRow, standIns := [], harness := (true, "1dd7a8de77cc13bdedfc560e1c8c6b1e1918160447863335ec10a53b114b2bf2"), looks := false }, kinds := [], alts := [], laidByText := true, laidKinds := [.data, .pinned], laidTests := true, laidLooks := .later }
def PackRecipesCardSaid : Prop := Claim7.holds Tryz.pinned (.plain (OpenSpec.ofChange packRecipesSpec)) packRecipesCard

/-- THE TIED CARD OF 'zeitnotlaw44.PackOpens'. -/
def packOpensCard : Claim7 := { stood := { row := packOpensRow, standIns := [], harness := (true, "1dd7a8de77cc13bdedfc560e1c8c6b1e1918160447863335ec10a53b114b2bf2"), looks := false }, kinds := [], alts := [], laidByText := true, laidKinds := [.data, .pinned], laidTests := true, laidLooks := .later }
def PackOpensCardSaid : Prop := Claim7.holds Tryz.pinned (.plain (OpenSpec.ofChange packOpensSpec)) packOpensCard

/-- THE TIED CARD OF 'zeitnotlaw44.PackFits'. -/
def packFitsCard : Claim7 := { stood := { row := packFitsRow, standIns := [], harness := (true, "1dd7a8de77cc13bdedfc560e1c8c6b1e1918160447863335ec10a53b114b2bf2"), looks := false }, kinds := [], alts := [], laidByText := true, laidKinds := [.data, .pinned], laidTests := true, laidLooks := .later }
def PackFitsCardSaid : Prop := Claim7.holds Tryz.pinned (.plain (OpenSpec.ofChange packFitsSpec)) packFitsCard

/-- THE SECOND FORM's CARD OF 'zeitnotlaw44.PackNone'. -/
def packNoneUptoCard : Claim7 := { stood := { row := packNoneUptoRow, standIns := [], harness := (true, "1dd7a8de77cc13bdedfc560e1c8c6b1e1918160447863335ec10a53b114b2bf2"), looks := false }, kinds := [], alts := [], laidByText := true, laidKinds := [.data, .pinned], laidTests := true, laidLooks := .later }
def PackNoneUptoCardSaid : Prop := Claim7.holds Tryz.pinned (.plain (OpenSpec.upto packNoneSpec)) packNoneUptoCard

/-- THE SECOND FORM's CARD OF 'zeitnotlaw44.PackHolds'. -/
def packHoldsUptoCard : Claim7 := { stood := { row := packHoldsUptoRow, standIns := [], harness := (true, "1dd7a8de77cc13bdedfc560e1c8c6b1e1918160447863335ec10a53b114b2bf2"), looks := false }, kinds := [], alts := [], laidByText := true, laidKinds := [.data, .pinned], laidTests := true, laidLooks := .later }
def PackHoldsUptoCardSaid : Prop := Claim7.holds Tryz.pinned (.plain (OpenSpec.upto packHoldsSpec)) packHoldsUptoCard

/-- THE SECOND FORM's CARD OF 'zeitnotlaw44.PackRecipes'. -/
def packRecipesUptoCard : Claim7 := { stood := { row := packRecipesUptoRow, standIns := [], harness := (true, "1dd7a8de77cc13bdedfc560e1c8c6b1e1918160447863335ec10a53b114b2bf2"), looks := false }, kinds := [], alts := [], laidByText := true, laidKinds := [.data, .pinned], laidTests := true, laidLooks := .later }
def PackRecipesUptoCardSaid : Prop := Claim7.holds Tryz.pinned (.plain (OpenSpec.upto packRecipesSpec)) packRecipesUptoCard

/-- THE SECOND FORM's CARD OF 'zeitnotlaw44.PackOpens'. -/
def packOpensUptoCard : Claim7 := { stood := { row := packOpensUptoRow, standIns := [], harness := (true, "1dd7a8de77cc13bdedfc560e1c8c6b1e1918160447863335ec10a53b114b2bf2"), looks := false }, kinds := [], alts := [], laidByText := true, laidKinds := [.data, .pinned], laidTests := true, laidLooks := .later }
def PackOpensUptoCardSaid : Prop := Claim7.holds Tryz.pinned (.plain (OpenSpec.upto packOpensSpec)) packOpensUptoCard

/-- THE SECOND FORM's CARD OF 'zeitnotlaw44.PackFits'. -/
def packFitsUptoCard : Claim7 := { stood := { row := packFitsUptoRow, standIns := [], harness := (true, "1dd7a8de77cc13bdedfc560e1c8c6b1e1918160447863335ec10a53b114b2bf2"), looks := false }, kinds := [], alts := [], laidByText := true, laidKinds := [.data, .pinned], laidTests := true, laidLooks := .later }
def PackFitsUptoCardSaid : Prop := Claim7.holds Tryz.pinned (.plain (OpenSpec.upto packFitsSpec)) packFitsUptoCard
end Rows
end Go.Proofs.YtipmoghhmclelaaGreatDoor
