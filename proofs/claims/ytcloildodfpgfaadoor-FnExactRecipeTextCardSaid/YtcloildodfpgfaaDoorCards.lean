/-
  DERIVED. GIVEN WITH THE SEED: THE CARDS: each row of YtcloildodfpgfaaDoorRows.lean that lists a variable, with what it lists TIED to the program's text (the seventh form; the later family's looks); each row that meets fmt, with fmt's text TOLD by the authors' own Lean function (tested against real Go, not proved from fmt's source: count such statements apart). THE CARD IS WHAT COUNTS. Prove the row's statement (the work); the ties are given (YtcloildodfpgfaaDoorTie.lean); close each card by the builder's one call (the guide's Derived/Test/ToyasCard.lean, 'card_holds'). Laid BY PROGRAM, IN A SANDBOX (cutbox-door.mjs). By AI agents, Wed Nov 11 2026. No macro, syntax, notation, axiom, sorry.
-/
import Derived.Test.YtcloildodfpgfaaDoorRows
import GoSem.ClaimSeven
namespace Go.Proofs.YtcloildodfpgfaaDoor
namespace Rows

/-- THE TIED CARD OF 'laws.FnExactMixRecipes'. -/
def fnExactMixRecipesCard : Claim7 := { stood := { row := fnExactMixRecipesRow, standIns := [], harness := (true, "9beb69743760367385fd328c3f49a88e897594de1b20c82baa5a7133c13981d1"), looks := false }, kinds := [], alts := [], laidByText := true, laidKinds := [.data, .pinned], laidTests := true, laidLooks := .later }
def FnExactMixRecipesCardSaid : Prop := Claim7.holds Tryd.pinned (.plain (OpenSpec.ofChange fnExactMixRecipesSpec)) fnExactMixRecipesCard

/-- THE TIED CARD OF 'laws.FnExactIsRecipe'. -/
def fnExactIsRecipeCard : Claim7 := { stood := { row := fnExactIsRecipeRow, standIns := [], harness := (true, "9beb69743760367385fd328c3f49a88e897594de1b20c82baa5a7133c13981d1"), looks := false }, kinds := [], alts := [], laidByText := true, laidKinds := [.data, .pinned], laidTests := true, laidLooks := .later }
def FnExactIsRecipeCardSaid : Prop := Claim7.holds Tryd.pinned (.plain (OpenSpec.ofChange fnExactIsRecipeSpec)) fnExactIsRecipeCard

/-- THE TIED CARD OF 'laws.FnExactIsBath'. -/
def fnExactIsBathCard : Claim7 := { stood := { row := fnExactIsBathRow, standIns := [], harness := (true, "9beb69743760367385fd328c3f49a88e897594de1b20c82baa5a7133c13981d1"), looks := false }, kinds := [], alts := [], laidByText := true, laidKinds := [.data, .pinned], laidTests := true, laidLooks := .later }
def FnExactIsBathCardSaid : Prop := Claim7.holds Tryd.pinned (.plain (OpenSpec.ofChange fnExactIsBathSpec)) fnExactIsBathCard

/-- THE TIED CARD OF 'laws.FnExactNeedsFor'. -/
def fnExactNeedsForCard : Claim7 := { stood := { row := fnExactNeedsForRow, standIns := [], harness := (true, "9beb69743760367385fd328c3f49a88e897594de1b20c82baa5a7133c13981d1"), looks := false }, kinds := [], alts := [], laidByText := true, laidKinds := [.data, .pinned], laidTests := true, laidLooks := .later }
def FnExactNeedsForCardSaid : Prop := Claim7.holds Tryd.pinned (.plain (OpenSpec.ofChange fnExactNeedsForSpec)) fnExactNeedsForCard

/-- THE TIED CARD OF 'laws.FnExactDepthLeft'. -/
def fnExactDepthLeftCard : Claim7 := { stood := { row := fnExactDepthLeftRow, standIns := [], harness := (true, "9beb69743760367385fd328c3f49a88e897594de1b20c82baa5a7133c13981d1"), looks := false }, kinds := [], alts := [], laidByText := true, laidKinds := [.data, .pinned], laidTests := true, laidLooks := .later }
def FnExactDepthLeftCardSaid : Prop := Claim7.holds Tryd.pinned (.plain (OpenSpec.ofChange fnExactDepthLeftSpec)) fnExactDepthLeftCard

/-- THE TIED CARD OF 'laws.FnExactIsReady'. -/
def fnExactIsReadyCard : Claim7 := { stood := { row := fnExactIsReadyRow, standIns := [], harness := (true, "9beb69743760367385fd328c3f49a88e897594de1b20c82baa5a7133c13981d1"), looks := false }, kinds := [], alts := [], laidByText := true, laidKinds := [.data, .pinned], laidTests := true, laidLooks := .later }
def FnExactIsReadyCardSaid : Prop := Claim7.holds Tryd.pinned (.plain (OpenSpec.ofChange fnExactIsReadySpec)) fnExactIsReadyCard

/-- THE TIED CARD OF 'laws.FnExactMostYarn'. -/
def fnExactMostYarnCard : Claim7 := { stood := { row := fnExactMostYarnRow, standIns := [], harness := (true, "9beb69743760367385fd328c3f49a88e897594de1b20c82baa5a7133c13981d1"), looks := false }, kinds := [], alts := [], laidByText := true, laidKinds := [.data, .pinned], laidTests := true, laidLooks := .later }
def FnExactMostYarnCardSaid : Prop := Claim7.holds Tryd.pinned (.plain (OpenSpec.ofChange fnExactMostYarnSpec)) fnExactMostYarnCard

/-- THE TIED CARD OF 'laws.FnExactAddStuff'. -/
def fnExactAddStuffCard : Claim7 := { stood := { row := fnExactAddStuffRow, standIns := [], harness := (true, "9beb69743760367385fd328c3f49a88e897594de1b20c82baa5a7133c13981d1"), looks := false }, kinds := [], alts := [], laidByText := true, laidKinds := [.data, .pinned], laidTests := true, laidLooks := .later }
def FnExactAddStuffCardSaid : Prop := Claim7.holds Tryd.pinned (.plain (OpenSpec.ofChange fnExactAddStuffSpec)) fnExactAddStuffCard

/-- THE TIED CARD OF 'laws.FnExactDyeYarn'. -/
def fnExactDyeYarnCard : Claim7 := { stood := { row := fnExactDyeYarnRow, standIns := [], harness := (true, "9beb69743760367385fd328c3f49a88e897594de1b20c82baa5a7133c13981d1"), looks := false }, kinds := [], alts := [], laidByText := true, laidKinds := [.data, .pinned], laidTests := true, laidLooks := .later }
def FnExactDyeYarnCardSaid : Prop := Claim7.holds Tryd.pinned (.plain (OpenSpec.ofChange fnExactDyeYarnSpec)) fnExactDyeYarnCard

/-- THE TIED CARD OF 'laws.FnExactRecipeText'. -/
def fnExactRecipeTextCard : Claim7 := { stood := { row := fnExactRecipeTextRow, standIns := [], harness := (true, "9beb69743760367385fd328c3f49a88e897594de1b20c82baa5a7133c13981d1"), looks := false }, kinds := [], alts := [], laidByText := true, laidKinds := [.data, .data, .data, .data, .pinned], laidTests := true, laidLooks := .later }
def FnExactRecipeTextCardSaid : Prop := Claim7.holds Tryd.pinned (.plain (OpenSpec.ofChange fnExactRecipeTextSpec)) fnExactRecipeTextCard

/-- THE SECOND FORM's CARD OF 'laws.FnExactMixRecipes'. -/
def fnExactMixRecipesUptoCard : Claim7 := { stood := { row := fnExactMixRecipesUptoRow, standIns := [], harness := (true, "9beb69743760367385fd328c3f49a88e897594de1b20c82baa5a7133c13981d1"), looks := false }, kinds := [], alts := [], laidByText := true, laidKinds := [.data, .pinned], laidTests := true, laidLooks := .later }
def FnExactMixRecipesUptoCardSaid : Prop := Claim7.holds Tryd.pinned (.plain (OpenSpec.upto fnExactMixRecipesSpec)) fnExactMixRecipesUptoCard

/-- THE SECOND FORM's CARD OF 'laws.FnExactIsRecipe'. -/
def fnExactIsRecipeUptoCard : Claim7 := { stood := { row := fnExactIsRecipeUptoRow, standIns := [], harness := (true, "9beb69743760367385fd328c3f49a88e897594de1b20c82baa5a7133c13981d1"), looks := false }, kinds := [], alts := [], laidByText := true, laidKinds := [.data, .pinned], laidTests := true, laidLooks := .later }
def FnExactIsRecipeUptoCardSaid : Prop := Claim7.holds Tryd.pinned (.plain (OpenSpec.upto fnExactIsRecipeSpec)) fnExactIsRecipeUptoCard

/-- THE SECOND FORM's CARD OF 'laws.FnExactIsBath'. -/
def fnExactIsBathUptoCard : Claim7 := { stood := { row := fnExactIsBathUptoRow, standIns := [], harness := (true, "9beb69743760367385fd328c3f49a88e897594de1b20c82baa5a7133c13981d1"), looks := false }, kinds := [], alts := [], laidByText := true, laidKinds := [.data, .pinned], laidTests := true, laidLooks := .later }
def FnExactIsBathUptoCardSaid : Prop := Claim7.holds Tryd.pinned (.plain (OpenSpec.upto fnExactIsBathSpec)) fnExactIsBathUptoCard

/-- THE SECOND FORM's CARD OF 'laws.FnExactNeedsFor'. -/
def fnExactNeedsForUptoCard : Claim7 := { stood := { row := fnExactNeedsForUptoRow, standIns := [], harness := (true, "9beb69743760367385fd328c3f49a88e897594de1b20c82baa5a7133c13981d1"), looks := false }, kinds := [], alts := [], laidByText := true, laidKinds := [.data, .pinned], laidTests := true, laidLooks := .later }
def FnExactNeedsForUptoCardSaid : Prop := Claim7.holds Tryd.pinned (.plain (OpenSpec.upto fnExactNeedsForSpec)) fnExactNeedsForUptoCard

/-- THE SECOND FORM's CARD OF 'laws.FnExactDepthLeft'. -/
def fnExactDepthLeftUptoCard : Claim7 := { stood := { row := fnExactDepthLeftUptoRow, standIns := [], harness := (true, "9beb69743760367385fd328c3f49a88e897594de1b20c82baa5a7133c13981d1"), looks := false }, kinds := [], alts := [], laidByText := true, laidKinds := [.data, .pinned], laidTests := true, laidLooks := .later }
def FnExactDepthLeftUptoCardSaid : Prop := Claim7.holds Tryd.pinned (.plain (OpenSpec.upto fnExactDepthLeftSpec)) fnExactDepthLeftUptoCard

/-- THE SECOND FORM's CARD OF 'laws.FnExactIsReady'. -/
def fnExactIsReadyUptoCard : Claim7 := { stood := { row := fnExactIsReadyUptoRow, standIns := [], harness := (true, "9beb69743760367385fd328c3f49a88e897594de1b20c82baa5a7133c13981d1"), looks := false }, kinds := [], alts := [], laidByText := true, laidKinds := [.data, .pinned], laidTests := true, laidLooks := .later }
def FnExactIsReadyUptoCardSaid : Prop := Claim7.holds Tryd.pinned (.plain (OpenSpec.upto fnExactIsReadySpec)) fnExactIsReadyUptoCard

/-- THE SECOND FORM's CARD OF 'laws.FnExactMostYarn'. -/
def fnExactMostYarnUptoCard : Claim7 := { stood := { row := fnExactMostYarnUptoRow, standIns := [], harness := (true, "9beb69743760367385fd328c3f49a88e897594de1b20c82baa5a7133c13981d1"), looks := false }, kinds := [], alts := [], laidByText := true, laidKinds := [.data, .pinned], laidTests := true, laidLooks := .later }
def FnExactMostYarnUptoCardSaid : Prop := Claim7.holds Tryd.pinned (.plain (OpenSpec.upto fnExactMostYarnSpec)) fnExactMostYarnUptoCard

/-- THE SECOND FORM's CARD OF 'laws.FnExactAddStuff'. -/
def fnExactAddStuffUptoCard : Claim7 := { stood := { row := fnExactAddStuffUptoRow, standIns := [], harness := (true, "9beb69743760367385fd328c3f49a88e897594de1b20c82baa5a7133c13981d1"), looks := false }, kinds := [], alts := [], laidByText := true, laidKinds := [.data, .pinned], laidTests := true, laidLooks := .later }
def FnExactAddStuffUptoCardSaid : Prop := Claim7.holds Tryd.pinned (.plain (OpenSpec.upto fnExactAddStuffSpec)) fnExactAddStuffUptoCard

/-- THE SECOND FORM's CARD OF 'laws.FnExactDyeYarn'. -/
def fnExactDyeYarnUptoCard : Claim7 := { stood := { row := fnExactDyeYarnUptoRow, standIns := [], harness := (true, "9beb69743760367385fd328c3f49a88e897594de1b20c82baa5a7133c13981d1"), looks := false }, kinds := [], alts := [], laidByText := true, laidKinds := [.data, .pinned], laidTests := true, laidLooks := .later }
def FnExactDyeYarnUptoCardSaid : Prop := Claim7.holds Tryd.pinned (.plain (OpenSpec.upto fnExactDyeYarnSpec)) fnExactDyeYarnUptoCard

/-- THE SECOND FORM's CARD OF 'laws.FnExactRecipeText'. -/
def fnExactRecipeTextUptoCard : Claim7 := { stood := { row := fnExactRecipeTextUptoRow, standIns := [], harness := (true, "9beb69743760367385fd328c3f49a88e897594de1b20c82baa5a7133c13981d1"), looks := false }, kinds := [], alts := [], laidByText := true, laidKinds := [.data, .data, .data, .data, .pinned], laidTests := true, laidLooks := .later }
def FnExactRecipeTextUptoCardSaid : Prop := Claim7.holds Tryd.pinned (.plain (OpenSpec.upto fnExactRecipeTextSpec)) fnExactRecipeTextUptoCard
end Rows
end Go.Proofs.YtcloildodfpgfaaDoor
