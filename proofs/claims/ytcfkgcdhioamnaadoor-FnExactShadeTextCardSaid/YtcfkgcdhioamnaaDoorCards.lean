/-
  DERIVED. GIVEN WITH THE SEED: THE CARDS: each row of YtcfkgcdhioamnaaDoorRows.lean that lists a variable, with what it lists TIED to the program's text (the seventh form; the later family's looks); each row that meets fmt, with fmt's text TOLD by the authors' own Lean function (tested against real Go, not proved from fmt's source: count such statements apart). THE CARD IS WHAT COUNTS. Prove the row's statement (the work); the ties are given (YtcfkgcdhioamnaaDoorTie.lean); close each card by the builder's one call (the guide's Derived/Test/ToyasCard.lean, 'card_holds'). Laid BY PROGRAM, IN A SANDBOX (cutbox-door.mjs). By AI agents, Wed Nov 11 2026. No macro, syntax, notation, axiom, sorry.
-/
import Derived.Test.YtcfkgcdhioamnaaDoorRows
import GoSem.ClaimSeven
namespace Go.Proofs.YtcfkgcdhioamnaaDoor
namespace Rows

/-- THE TIED CARD OF 'laws.FnExactIsShade'. -/
def fnExactIsShadeCard : Claim7 := { stood := { row := fnExactIsShadeRow, standIns := [], harness := (true, "29a8e4cfec71a28731092c5ae701443884581aa84ada0f3e62c5eaa61cebeb42"), looks := false }, kinds := [], alts := [], laidByText := true, laidKinds := [.data, .pinned], laidTests := true, laidLooks := .later }
def FnExactIsShadeCardSaid : Prop := Claim7.holds Tryd.pinned (.plain (OpenSpec.ofChange fnExactIsShadeSpec)) fnExactIsShadeCard

/-- THE TIED CARD OF 'laws.FnExactShadeDistance'. -/
def fnExactShadeDistanceCard : Claim7 := { stood := { row := fnExactShadeDistanceRow, standIns := [], harness := (true, "29a8e4cfec71a28731092c5ae701443884581aa84ada0f3e62c5eaa61cebeb42"), looks := false }, kinds := [], alts := [], laidByText := true, laidKinds := [.data, .pinned], laidTests := true, laidLooks := .later }
def FnExactShadeDistanceCardSaid : Prop := Claim7.holds Tryd.pinned (.plain (OpenSpec.ofChange fnExactShadeDistanceSpec)) fnExactShadeDistanceCard

/-- THE TIED CARD OF 'laws.FnExactFadedShade'. -/
def fnExactFadedShadeCard : Claim7 := { stood := { row := fnExactFadedShadeRow, standIns := [], harness := (true, "29a8e4cfec71a28731092c5ae701443884581aa84ada0f3e62c5eaa61cebeb42"), looks := false }, kinds := [], alts := [], laidByText := true, laidKinds := [.data, .pinned], laidTests := true, laidLooks := .later }
def FnExactFadedShadeCardSaid : Prop := Claim7.holds Tryd.pinned (.plain (OpenSpec.ofChange fnExactFadedShadeSpec)) fnExactFadedShadeCard

/-- THE TIED CARD OF 'laws.FnExactNearestShade'. -/
def fnExactNearestShadeCard : Claim7 := { stood := { row := fnExactNearestShadeRow, standIns := [], harness := (true, "29a8e4cfec71a28731092c5ae701443884581aa84ada0f3e62c5eaa61cebeb42"), looks := false }, kinds := [], alts := [], laidByText := true, laidKinds := [.data, .pinned], laidTests := true, laidLooks := .later }
def FnExactNearestShadeCardSaid : Prop := Claim7.holds Tryd.pinned (.plain (OpenSpec.ofChange fnExactNearestShadeSpec)) fnExactNearestShadeCard

/-- THE TIED CARD OF 'laws.FnExactTriadsOf'. -/
def fnExactTriadsOfCard : Claim7 := { stood := { row := fnExactTriadsOfRow, standIns := [], harness := (true, "29a8e4cfec71a28731092c5ae701443884581aa84ada0f3e62c5eaa61cebeb42"), looks := false }, kinds := [], alts := [], laidByText := true, laidKinds := [.data, .pinned], laidTests := true, laidLooks := .later }
def FnExactTriadsOfCardSaid : Prop := Claim7.holds Tryd.pinned (.plain (OpenSpec.ofChange fnExactTriadsOfSpec)) fnExactTriadsOfCard

/-- THE TIED CARD OF 'laws.FnExactFadedApart'. -/
def fnExactFadedApartCard : Claim7 := { stood := { row := fnExactFadedApartRow, standIns := [], harness := (true, "29a8e4cfec71a28731092c5ae701443884581aa84ada0f3e62c5eaa61cebeb42"), looks := false }, kinds := [], alts := [], laidByText := true, laidKinds := [.data, .pinned], laidTests := true, laidLooks := .later }
def FnExactFadedApartCardSaid : Prop := Claim7.holds Tryd.pinned (.plain (OpenSpec.ofChange fnExactFadedApartSpec)) fnExactFadedApartCard

/-- THE TIED CARD OF 'laws.FnExactShadeText'. -/
def fnExactShadeTextCard : Claim7 := { stood := { row := fnExactShadeTextRow, standIns := [], harness := (true, "29a8e4cfec71a28731092c5ae701443884581aa84ada0f3e62c5eaa61cebeb42"), looks := false }, kinds := [], alts := [], laidByText := true, laidKinds := [.data, .data, .data, .data, .pinned], laidTests := true, laidLooks := .later }
def FnExactShadeTextCardSaid : Prop := Claim7.holds Tryd.pinned (.plain (OpenSpec.ofChange fnExactShadeTextSpec)) fnExactShadeTextCard

/-- THE SECOND FORM's CARD OF 'laws.FnExactIsShade'. -/
def fnExactIsShadeUptoCard : Claim7 := { stood := { row := fnExactIsShadeUptoRow, standIns := [], harness := (true, "29a8e4cfec71a28731092c5ae701443884581aa84ada0f3e62c5eaa61cebeb42"), looks := false }, kinds := [], alts := [], laidByText := true, laidKinds := [.data, .pinned], laidTests := true, laidLooks := .later }
def FnExactIsShadeUptoCardSaid : Prop := Claim7.holds Tryd.pinned (.plain (OpenSpec.upto fnExactIsShadeSpec)) fnExactIsShadeUptoCard

/-- THE SECOND FORM's CARD OF 'laws.FnExactShadeDistance'. -/
def fnExactShadeDistanceUptoCard : Claim7 := { stood := { row := fnExactShadeDistanceUptoRow, standIns := [], harness := (true, "29a8e4cfec71a28731092c5ae701443884581aa84ada0f3e62c5eaa61cebeb42"), looks := false }, kinds := [], alts := [], laidByText := true, laidKinds := [.data, .pinned], laidTests := true, laidLooks := .later }
def FnExactShadeDistanceUptoCardSaid : Prop := Claim7.holds Tryd.pinned (.plain (OpenSpec.upto fnExactShadeDistanceSpec)) fnExactShadeDistanceUptoCard

/-- THE SECOND FORM's CARD OF 'laws.FnExactFadedShade'. -/
def fnExactFadedShadeUptoCard : Claim7 := { stood := { row := fnExactFadedShadeUptoRow, standIns := [], harness := (true, "29a8e4cfec71a28731092c5ae701443884581aa84ada0f3e62c5eaa61cebeb42"), looks := false }, kinds := [], alts := [], laidByText := true, laidKinds := [.data, .pinned], laidTests := true, laidLooks := .later }
def FnExactFadedShadeUptoCardSaid : Prop := Claim7.holds Tryd.pinned (.plain (OpenSpec.upto fnExactFadedShadeSpec)) fnExactFadedShadeUptoCard

/-- THE SECOND FORM's CARD OF 'laws.FnExactNearestShade'. -/
def fnExactNearestShadeUptoCard : Claim7 := { stood := { row := fnExactNearestShadeUptoRow, standIns := [], harness := (true, "29a8e4cfec71a28731092c5ae701443884581aa84ada0f3e62c5eaa61cebeb42"), looks := false }, kinds := [], alts := [], laidByText := true, laidKinds := [.data, .pinned], laidTests := true, laidLooks := .later }
def FnExactNearestShadeUptoCardSaid : Prop := Claim7.holds Tryd.pinned (.plain (OpenSpec.upto fnExactNearestShadeSpec)) fnExactNearestShadeUptoCard

/-- THE SECOND FORM's CARD OF 'laws.FnExactTriadsOf'. -/
def fnExactTriadsOfUptoCard : Claim7 := { stood := { row := fnExactTriadsOfUptoRow, standIns := [], harness := (true, "29a8e4cfec71a28731092c5ae701443884581aa84ada0f3e62c5eaa61cebeb42"), looks := false }, kinds := [], alts := [], laidByText := true, laidKinds := [.data, .pinned], laidTests := true, laidLooks := .later }
def FnExactTriadsOfUptoCardSaid : Prop := Claim7.holds Tryd.pinned (.plain (OpenSpec.upto fnExactTriadsOfSpec)) fnExactTriadsOfUptoCard

/-- THE SECOND FORM's CARD OF 'laws.FnExactFadedApart'. -/
def fnExactFadedApartUptoCard : Claim7 := { stood := { row := fnExactFadedApartUptoRow, standIns := [], harness := (true, "29a8e4cfec71a28731092c5ae701443884581aa84ada0f3e62c5eaa61cebeb42"), looks := false }, kinds := [], alts := [], laidByText := true, laidKinds := [.data, .pinned], laidTests := true, laidLooks := .later }
def FnExactFadedApartUptoCardSaid : Prop := Claim7.holds Tryd.pinned (.plain (OpenSpec.upto fnExactFadedApartSpec)) fnExactFadedApartUptoCard

/-- THE SECOND FORM's CARD OF 'laws.FnExactShadeText'. -/
def fnExactShadeTextUptoCard : Claim7 := { stood := { row := fnExactShadeTextUptoRow, standIns := [], harness := (true, "29a8e4cfec71a28731092c5ae701443884581aa84ada0f3e62c5eaa61cebeb42"), looks := false }, kinds := [], alts := [], laidByText := true, laidKinds := [.data, .data, .data, .data, .pinned], laidTests := true, laidLooks := .later }
def FnExactShadeTextUptoCardSaid : Prop := Claim7.holds Tryd.pinned (.plain (OpenSpec.upto fnExactShadeTextSpec)) fnExactShadeTextUptoCard
end Rows
end Go.Proofs.YtcfkgcdhioamnaaDoor
