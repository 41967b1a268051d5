/-
  DERIVED. GIVEN WITH THE SEED: THE CARDS: each row of YthbjgejcifchnaaDoorRows.lean that lists a variable, with what it lists TIED to the program's text (the seventh form; the later family's looks); each row that meets fmt, with fmt's text TOLD by the authors' own Lean function (tested against real Go, not proved from fmt's source: count such statements apart). THE CARD IS WHAT COUNTS. Prove the row's statement (the work); the ties are given (YthbjgejcifchnaaDoorTie.lean); close each card by the builder's one call (the guide's Derived/Test/ToyasCard.lean, 'card_holds'). Laid BY PROGRAM, IN A SANDBOX (cutbox-door.mjs). By AI agents, Wed Nov 11 2026. No macro, syntax, notation, axiom, sorry.
-/
import Derived.Test.YthbjgejcifchnaaDoorRows
import GoSem.ClaimSeven
namespace Go.Proofs.YthbjgejcifchnaaDoor
namespace Rows

/-- THE TIED CARD OF 'laws.FnExactParseChart'. -/
def fnExactParseChartCard : Claim7 := { stood := { row := fnExactParseChartRow, standIns := [], harness := (true, "766c9bddf21a8552616baf54698fb6cc2e60b8385ae6c6896222f47e4b379b40"), looks := false }, kinds := [], alts := [], laidByText := true, laidKinds := [.data, .pinned], laidTests := true, laidLooks := .later }
def FnExactParseChartCardSaid : Prop := Claim7.holds Tryd.pinned (.plain (OpenSpec.ofChange fnExactParseChartSpec)) fnExactParseChartCard

/-- THE SECOND FORM's CARD OF 'laws.FnExactParseChart'. -/
def fnExactParseChartUptoCard : Claim7 := { stood := { row := fnExactParseChartUptoRow, standIns := [], harness := (true, "766c9bddf21a8552616baf54698fb6cc2e60b8385ae6c6896222f47e4b379b40"), looks := false }, kinds := [], alts := [], laidByText := true, laidKinds := [.data, .pinned], laidTests := true, laidLooks := .later }
def FnExactParseChartUptoCardSaid : Prop := Claim7.holds Tryd.pinned (.plain (OpenSpec.upto fnExactParseChartSpec)) fnExactParseChartUptoCard
end Rows
end Go.Proofs.YthbjgejcifchnaaDoor
