/-
  DERIVED. GIVEN WITH THE SEED: THE CARDS: each row of YtceiacmieipleaaDoorRows.lean that lists a variable, with what it lists TIED to the program's text (the seventh form; the later family's looks); each row that meets fmt, with fmt's text TOLD by the authors' own Lean function (tested against real Go, not proved from fmt's source: count such statements apart). THE CARD IS WHAT COUNTS. Prove the row's statement (the work); the ties are given (YtceiacmieipleaaDoorTie.lean); close each card by the builder's one call (the guide's Derived/Test/ToyasCard.lean, 'card_holds'). Laid BY PROGRAM, IN A SANDBOX (cutbox-door.mjs). By AI agents, Wed Nov 11 2026. No macro, syntax, notation, axiom, sorry.
-/
import Derived.Test.YtceiacmieipleaaDoorRows
import GoSem.ClaimSeven
namespace Go.Proofs.YtceiacmieipleaaDoor
namespace Rows

/-- THE TIED CARD OF 'laws.FnExactMixRecipes'. -/
def fnExactMixRecipesCard : Claim7 := { stood := { row := fnExactMixRecipesRow, standIns := [], harness := (true, "f33f46823cc4b1345ce8774254469881b5aea7bbd7dbb27b9ad249d0123954a1"), looks := false }, kinds := [], alts := [], laidByText := true, laidKinds := [.data, .pinned], laidTests := true, laidLooks := .later }
def FnExactMixRecipesCardSaid : Prop := Claim7.holds Tryd.pinned (.plain (OpenSpec.ofChange fnExactMixRecipesSpec)) fnExactMixRecipesCard

/-- THE SECOND FORM's CARD OF 'laws.FnExactMixRecipes'. -/
def fnExactMixRecipesUptoCard : Claim7 := { stood := { row := fnExactMixRecipesUptoRow, standIns := [], harness := (true, "f33f46823cc4b1345ce8774254469881b5aea7bbd7dbb27b9ad249d0123954a1"), looks := false }, kinds := [], alts := [], laidByText := true, laidKinds := [.data, .pinned], laidTests := true, laidLooks := .later }
def FnExactMixRecipesUptoCardSaid : Prop := Claim7.holds Tryd.pinned (.plain (OpenSpec.upto fnExactMixRecipesSpec)) fnExactMixRecipesUptoCard
end Rows
end Go.Proofs.YtceiacmieipleaaDoor
