/-
  DERIVED. GIVEN WITH THE SEED: THE CARDS: each row of YtafokpklcmegaaaDoorRows.lean that lists a variable, with what it lists TIED to the program's text (the seventh form; the later family's looks); each row that meets fmt, with fmt's text TOLD by the authors' own Lean function (tested against real Go, not proved from fmt's source: count such statements apart). THE CARD IS WHAT COUNTS. Prove the row's statement (the work); the ties are given (YtafokpklcmegaaaDoorTie.lean); close each card by the builder's one call (the guide's Derived/Test/ToyasCard.lean, 'card_holds'). Laid BY PROGRAM, IN A SANDBOX (cutbox-door.mjs). By AI agents, Wed Nov 11 2026. No macro, syntax, notation, axiom, sorry.
-/
import Derived.Test.YtafokpklcmegaaaDoorRows
import GoSem.ClaimSeven
namespace Go.Proofs.YtafokpklcmegaaaDoor
namespace Rows

/-- THE TIED CARD OF 'laws.FnExactIsShadeCard'. -/
def fnExactIsShadeCardCard : Claim7 := { stood := { row := fnExactIsShadeCardRow, standIns := [], harness := (true, "b8e07822940321a57d86a90343e5bec03e963d8ae9b29d4f2cd66ac6745dfa45"), looks := false }, kinds := [], alts := [], laidByText := true, laidKinds := [.data, .pinned], laidTests := true, laidLooks := .later }
def FnExactIsShadeCardCardSaid : Prop := Claim7.holds Tryd.pinned (.plain (OpenSpec.ofChange fnExactIsShadeCardSpec)) fnExactIsShadeCardCard

/-- THE TIED CARD OF 'laws.FnExactFadedApart'. -/
def fnExactFadedApartCard : Claim7 := { stood := { row := fnExactFadedApartRow, standIns := [], harness := (true, "b8e07822940321a57d86a90343e5bec03e963d8ae9b29d4f2cd66ac6745dfa45"), looks := false }, kinds := [], alts := [], laidByText := true, laidKinds := [.data, .pinned], laidTests := true, laidLooks := .later }
def FnExactFadedApartCardSaid : Prop := Claim7.holds Tryd.pinned (.plain (OpenSpec.ofChange fnExactFadedApartSpec)) fnExactFadedApartCard

/-- THE TIED CARD OF 'laws.FnExactNearestShade'. -/
def fnExactNearestShadeCard : Claim7 := { stood := { row := fnExactNearestShadeRow, standIns := [], harness := (true, "b8e07822940321a57d86a90343e5bec03e963d8ae9b29d4f2cd66ac6745dfa45"), looks := false }, kinds := [], alts := [], laidByText := true, laidKinds := [.data, .pinned], laidTests := true, laidLooks := .later }
def FnExactNearestShadeCardSaid : Prop := Claim7.holds Tryd.pinned (.plain (OpenSpec.ofChange fnExactNearestShadeSpec)) fnExactNearestShadeCard

/-- THE TIED CARD OF 'laws.FnExactTriadsOf'. -/
def fnExactTriadsOfCard : Claim7 := { stood := { row := fnExactTriadsOfRow, standIns := [], harness := (true, "b8e07822940321a57d86a90343e5bec03e963d8ae9b29d4f2cd66ac6745dfa45"), looks := false }, kinds := [], alts := [], laidByText := true, laidKinds := [.data, .pinned], laidTests := true, laidLooks := .later }
def FnExactTriadsOfCardSaid : Prop := Claim7.holds Tryd.pinned (.plain (OpenSpec.ofChange fnExactTriadsOfSpec)) fnExactTriadsOfCard

/-- THE TIED CARD OF 'laws.FnExactWheelOrder'. -/
def fnExactWheelOrderCard : Claim7 := { stood := { row := fnExactWheelOrderRow, standIns := [], harness := (true, "b8e07822940321a57d86a90343e5bec03e963d8ae9b29d4f2cd66ac6745dfa45"), looks := false }, kinds := [], alts := [], laidByText := true, laidKinds := [.data, .pinned], laidTests := true, laidLooks := .later }
def FnExactWheelOrderCardSaid : Prop := Claim7.holds Tryd.pinned (.plain (OpenSpec.ofChange fnExactWheelOrderSpec)) fnExactWheelOrderCard

/-- THE SECOND FORM's CARD OF 'laws.FnExactIsShadeCard'. -/
def fnExactIsShadeCardUptoCard : Claim7 := { stood := { row := fnExactIsShadeCardUptoRow, standIns := [], harness := (true, "b8e07822940321a57d86a90343e5bec03e963d8ae9b29d4f2cd66ac6745dfa45"), looks := false }, kinds := [], alts := [], laidByText := true, laidKinds := [.data, .pinned], laidTests := true, laidLooks := .later }
def FnExactIsShadeCardUptoCardSaid : Prop := Claim7.holds Tryd.pinned (.plain (OpenSpec.upto fnExactIsShadeCardSpec)) fnExactIsShadeCardUptoCard

/-- THE SECOND FORM's CARD OF 'laws.FnExactFadedApart'. -/
def fnExactFadedApartUptoCard : Claim7 := { stood := { row := fnExactFadedApartUptoRow, standIns := [], harness := (true, "b8e07822940321a57d86a90343e5bec03e963d8ae9b29d4f2cd66ac6745dfa45"), looks := false }, kinds := [], alts := [], laidByText := true, laidKinds := [.data, .pinned], laidTests := true, laidLooks := .later }
def FnExactFadedApartUptoCardSaid : Prop := Claim7.holds Tryd.pinned (.plain (OpenSpec.upto fnExactFadedApartSpec)) fnExactFadedApartUptoCard

/-- THE SECOND FORM's CARD OF 'laws.FnExactNearestShade'. -/
def fnExactNearestShadeUptoCard : Claim7 := { stood := { row := fnExactNearestShadeUptoRow, standIns := [], harness := (true, "b8e07822940321a57d86a90343e5bec03e963d8ae9b29d4f2cd66ac6745dfa45"), looks := false }, kinds := [], alts := [], laidByText := true, laidKinds := [.data, .pinned], laidTests := true, laidLooks := .later }
def FnExactNearestShadeUptoCardSaid : Prop := Claim7.holds Tryd.pinned (.plain (OpenSpec.upto fnExactNearestShadeSpec)) fnExactNearestShadeUptoCard

/-- THE SECOND FORM's CARD OF 'laws.FnExactTriadsOf'. -/
def fnExactTriadsOfUptoCard : Claim7 := { stood := { row := fnExactTriadsOfUptoRow, standIns := [], harness := (true, "b8e07822940321a57d86a90343e5bec03e963d8ae9b29d4f2cd66ac6745dfa45"), looks := false }, kinds := [], alts := [], laidByText := true, laidKinds := [.data, .pinned], laidTests := true, laidLooks := .later }
def FnExactTriadsOfUptoCardSaid : Prop := Claim7.holds Tryd.pinned (.plain (OpenSpec.upto fnExactTriadsOfSpec)) fnExactTriadsOfUptoCard

/-- THE SECOND FORM's CARD OF 'laws.FnExactWheelOrder'. -/
def fnExactWheelOrderUptoCard : Claim7 := { stood := { row := fnExactWheelOrderUptoRow, standIns := [], harness := (true, "b8e07822940321a57d86a90343e5bec03e963d8ae9b29d4f2cd66ac6745dfa45"), looks := false }, kinds := [], alts := [], laidByText := true, laidKinds := [.data, .pinned], laidTests := true, laidLooks := .later }
def FnExactWheelOrderUptoCardSaid : Prop := Claim7.holds Tryd.pinned (.plain (OpenSpec.upto fnExactWheelOrderSpec)) fnExactWheelOrderUptoCard
end Rows
end Go.Proofs.YtafokpklcmegaaaDoor
