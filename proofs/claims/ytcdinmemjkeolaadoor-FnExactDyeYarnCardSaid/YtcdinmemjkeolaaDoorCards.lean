/-
  DERIVED. GIVEN WITH THE SEED: THE CARDS: each row of YtcdinmemjkeolaaDoorRows.lean that lists a variable, with what it lists TIED to the program's text (the seventh form; the later family's looks); each row that meets fmt, with fmt's text TOLD by the authors' own Lean function (tested against real Go, not proved from fmt's source: count such statements apart). THE CARD IS WHAT COUNTS. Prove the row's statement (the work); the ties are given (YtcdinmemjkeolaaDoorTie.lean); close each card by the builder's one call (the guide's Derived/Test/ToyasCard.lean, 'card_holds'). Laid BY PROGRAM, IN A SANDBOX (cutbox-door.mjs). By AI agents, Wed Nov 11 2026. No macro, syntax, notation, axiom, sorry.
-/
import Derived.Test.YtcdinmemjkeolaaDoorRows
import GoSem.ClaimSeven
namespace Go.Proofs.YtcdinmemjkeolaaDoor
namespace Rows

/-- THE TIED CARD OF 'laws.FnExactAddStuff'. -/
def fnExactAddStuffCard : Claim7 := { stood := { row := fnExactAddStuffRow, standIns := [], harness := (true, "9186cc723239112ba39d28ce36c2bbcda47335c707d7d7dddac34eea50493e0c"), looks := false }, kinds := [], alts := [], laidByText := true, laidKinds := [.data, .pinned], laidTests := true, laidLooks := .later }
def FnExactAddStuffCardSaid : Prop := Claim7.holds Tryd.pinned (.plain (OpenSpec.ofChange fnExactAddStuffSpec)) fnExactAddStuffCard

/-- THE TIED CARD OF 'laws.FnExactDyeYarn'. -/
def fnExactDyeYarnCard : Claim7 := { stood := { row := fnExactDyeYarnRow, standIns := [], harness := (true, "9186cc723239112ba39d28ce36c2bbcda47335c707d7d7dddac34eea50493e0c"), looks := false }, kinds := [], alts := [], laidByText := true, laidKinds := [.data, .pinned], laidTests := true, laidLooks := .later }
def FnExactDyeYarnCardSaid : Prop := Claim7.holds Tryd.pinned (.plain (OpenSpec.ofChange fnExactDyeYarnSpec)) fnExactDyeYarnCard

/-- THE SECOND FORM's CARD OF 'laws.FnExactAddStuff'. -/
def fnExactAddStuffUptoCard : Claim7 := { stood := { row := fnExactAddStuffUptoRow, standIns := [], harness := (true, "9186cc723239112ba39d28ce36c2bbcda47335c707d7d7dddac34eea50493e0c"), looks := false }, kinds := [], alts := [], laidByText := true, laidKinds := [.data, .pinned], laidTests := true, laidLooks := .later }
def FnExactAddStuffUptoCardSaid : Prop := Claim7.holds Tryd.pinned (.plain (OpenSpec.upto fnExactAddStuffSpec)) fnExactAddStuffUptoCard

/-- THE SECOND FORM's CARD OF 'laws.FnExactDyeYarn'. -/
def fnExactDyeYarnUptoCard : Claim7 := { stood := { row := fnExactDyeYarnUptoRow, standIns := [], harness := (true, "9186cc723239112ba39d28ce36c2bbcda47335c707d7d7dddac34eea50493e0c"), looks := false }, kinds := [], alts := [], laidByText := true, laidKinds := [.data, .pinned], laidTests := true, laidLooks := .later }
def FnExactDyeYarnUptoCardSaid : Prop := Claim7.holds Tryd.pinned (.plain (OpenSpec.upto fnExactDyeYarnSpec)) fnExactDyeYarnUptoCard
end Rows
end Go.Proofs.YtcdinmemjkeolaaDoor
