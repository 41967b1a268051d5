/-
  DERIVED. GIVEN WITH THE SEED: THE CARDS: each row of YtggikmajopmchaaDoorRows.lean that lists a variable, with what it lists TIED to the program's text (the seventh form; the later family's looks); each row that meets fmt, with fmt's text TOLD by the authors' own Lean function (tested against real Go, not proved from fmt's source: count such statements apart). THE CARD IS WHAT COUNTS. Prove the row's statement (the work); the ties are given (YtggikmajopmchaaDoorTie.lean); close each card by the builder's one call (the guide's Derived/Test/ToyasCard.lean, 'card_holds'). Laid BY PROGRAM, IN A SANDBOX (cutbox-door.mjs). By AI agents, Wed Nov 11 2026. No macro, syntax, notation, axiom, sorry.
-/
import Derived.Test.YtggikmajopmchaaDoorRows
import GoSem.ClaimSeven
namespace Go.Proofs.YtggikmajopmchaaDoor
namespace Rows

/-- THE TIED CARD OF 'laws.FnExactFadedApart'. -/
def fnExactFadedApartCard : Claim7 := { stood := { row := fnExactFadedApartRow, standIns := [], harness := (true, "8ef117ab6ca7bcba0dc1043b61f3a5afdd852fa16b5817ab2fd2bb526f74aac0"), looks := false }, kinds := [], alts := [], laidByText := true, laidKinds := [.data, .pinned], laidTests := true, laidLooks := .later }
def FnExactFadedApartCardSaid : Prop := Claim7.holds Tryd.pinned (.plain (OpenSpec.ofChange fnExactFadedApartSpec)) fnExactFadedApartCard

/-- THE TIED CARD OF 'laws.FnExactTriadsOf'. -/
def fnExactTriadsOfCard : Claim7 := { stood := { row := fnExactTriadsOfRow, standIns := [], harness := (true, "8ef117ab6ca7bcba0dc1043b61f3a5afdd852fa16b5817ab2fd2bb526f74aac0"), looks := false }, kinds := [], alts := [], laidByText := true, laidKinds := [.data, .pinned], laidTests := true, laidLooks := .later }
def FnExactTriadsOfCardSaid : Prop := Claim7.holds Tryd.pinned (.plain (OpenSpec.ofChange fnExactTriadsOfSpec)) fnExactTriadsOfCard

/-- THE SECOND FORM's CARD OF 'laws.FnExactFadedApart'. -/
def fnExactFadedApartUptoCard : Claim7 := { stood := { row := fnExactFadedApartUptoRow, standIns := [], harness := (true, "8ef117ab6ca7bcba0dc1043b61f3a5afdd852fa16b5817ab2fd2bb526f74aac0"), looks := false }, kinds := [], alts := [], laidByText := true, laidKinds := [.data, .pinned], laidTests := true, laidLooks := .later }
def FnExactFadedApartUptoCardSaid : Prop := Claim7.holds Tryd.pinned (.plain (OpenSpec.upto fnExactFadedApartSpec)) fnExactFadedApartUptoCard

/-- THE SECOND FORM's CARD OF 'laws.FnExactTriadsOf'. -/
def fnExactTriadsOfUptoCard : Claim7 := { stood := { row := fnExactTriadsOfUptoRow, standIns := [], harness := (true, "8ef117ab6ca7bcba0dc1043b61f3a5afdd852fa16b5817ab2fd2bb526f74aac0"), looks := false }, kinds := [], alts := [], laidByText := true, laidKinds := [.data, .pinned], laidTests := true, laidLooks := .later }
def FnExactTriadsOfUptoCardSaid : Prop := Claim7.holds Tryd.pinned (.plain (OpenSpec.upto fnExactTriadsOfSpec)) fnExactTriadsOfUptoCard
end Rows
end Go.Proofs.YtggikmajopmchaaDoor
