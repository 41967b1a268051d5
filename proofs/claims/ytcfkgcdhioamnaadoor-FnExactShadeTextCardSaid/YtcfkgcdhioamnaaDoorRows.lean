/-
  NARROWER THAN 'FOR EVERY INPUT', by the rows' own cells (each row's printed sentence says how): FnExactIsShade: laid · FnExactShadeDistance: laid · FnExactFadedShade: laid · FnExactNearestShade: laid · FnExactTriadsOf: laid · FnExactFadedApart: laid · FnExactShadeText: laid.
  DERIVED. THE GIVEN ROWS OF THIS SEAT. 7 by the template 'for every input the law returns true; each argument reads behind the call as it read before'; 0 by the template 'total and deterministic' (their statements: YtcfkgcdhioamnaaDoorTotals.lean).
  GIVEN WITH THE SEED: the statements are not yours to turn. If you find one false, say at which input.
  Laid BY PROGRAM, IN A SANDBOX (cutbox-rows.mjs): the forced cells as the released guide's own fill.sh prints them over the translation d0ed9e78a7aa1607… (all of the seat's roots in one cut). By AI agents, Wed Nov 11 2026. No macro, syntax, notation, axiom, sorry.
-/
import Derived.Test.YtcfkgcdhioamnaaDoorChecked
import GoSem.PinnedTables
import GoSem.Claim
import GoSem.ClaimJoined
import GoSem.ClaimMapViews
import Derived.JoinedTies
import Derived.KernelRfl
namespace Go.Proofs.YtcfkgcdhioamnaaDoor
/- THE CELL 'sum', in the pinned program and in every row, IS THE sha256 OF THE DUMP (.gsa) THAT YtcfkgcdhioamnaaDoorProg.lean LOADS. Nothing in Lean hashes anything: it is a label: what it is worth is what the hold of that sum in a sandbox is worth. -/
noncomputable def Tryd.pinned : Pinned := { name := "ytcfkgcdhioamnaadoor", sum := "d0ed9e78a7aa1607546e2c9246ca8934a8e12c3391fc5c73e2448dacf42433df", checked := Tryd.checked }
namespace Rows
def none {H : Type} : Left H := { results := [], args := [] }

/- WHAT THE LISTED PACKAGE-LEVEL VARIABLES READ AS WHEN THE CALL BEGINS. Each datum BY PROGRAM (the guide's laid-datum.mjs) off the statement by which the dump's own 'gosem.cut.vars' lays the variable. In a bare row this is a premise. The card (YtcfkgcdhioamnaaDoorCards.lean) ties it to the program's text. -/
def laid_unicode_utf8_acceptRanges {H : Type} : DataW H := .agg [.agg [.lit (.int .u8 128), .lit (.int .u8 191)], .agg [.lit (.int .u8 160), .lit (.int .u8 191)], .agg [.lit (.int .u8 128), .lit (.int .u8 159)], .agg [.lit (.int .u8 144), .lit (.int .u8 191)], .agg [.lit (.int .u8 128), .lit (.int .u8 143)], .agg [.lit (.int .u8 0), .lit (.int .u8 0)], .agg [.lit (.int .u8 0), .lit (.int .u8 0)], .agg [.lit (.int .u8 0), .lit (.int .u8 0)], .agg [.lit (.int .u8 0), .lit (.int .u8 0)], .agg [.lit (.int .u8 0), .lit (.int .u8 0)], .agg [.lit (.int .u8 0), .lit (.int .u8 0)], .agg [.lit (.int .u8 0), .lit (.int .u8 0)], .agg [.lit (.int .u8 0), .lit (.int .u8 0)], .agg [.lit (.int .u8 0), .lit (.int .u8 0)], .agg [.lit (.int .u8 0), .lit (.int .u8 0)], .agg [.lit (.int .u8 0), .lit (.int .u8 0)]]
/-- One of Go's own tables, pinned by name: the form's constant. -/
def laid_unicode_utf8_first : DataW Unit := Go.Pinned.utf8First
def laid_math_bits_deBruijn32tab {H : Type} : DataW H := .agg [.lit (.int .u8 0), .lit (.int .u8 1), .lit (.int .u8 28), .lit (.int .u8 2), .lit (.int .u8 29), .lit (.int .u8 14), .lit (.int .u8 24), .lit (.int .u8 3), .lit (.int .u8 30), .lit (.int .u8 22), .lit (.int .u8 20), .lit (.int .u8 15), .lit (.int .u8 25), .lit (.int .u8 17), .lit (.int .u8 4), .lit (.int .u8 8), .lit (.int .u8 31), .lit (.int .u8 27), .lit (.int .u8 13), .lit (.int .u8 23), .lit (.int .u8 21), .lit (.int .u8 19), .lit (.int .u8 16), .lit (.int .u8 7), .lit (.int .u8 26), .lit (.int .u8 12), .lit (.int .u8 18), .lit (.int .u8 6), .lit (.int .u8 11), .lit (.int .u8 5), .lit (.int .u8 10), .lit (.int .u8 9)]
def laid_math_bits_deBruijn64tab {H : Type} : DataW H := .agg [.lit (.int .u8 0), .lit (.int .u8 1), .lit (.int .u8 56), .lit (.int .u8 2), .lit (.int .u8 57), .lit (.int .u8 49), .lit (.int .u8 28), .lit (.int .u8 3), .lit (.int .u8 61), .lit (.int .u8 58), .lit (.int .u8 42), .lit (.int .u8 50), .lit (.int .u8 38), .lit (.int .u8 29), .lit (.int .u8 17), .lit (.int .u8 4), .lit (.int .u8 62), .lit (.int .u8 47), .lit (.int .u8 59), .lit (.int .u8 36), .lit (.int .u8 45), .lit (.int .u8 43), .lit (.int .u8 51), .lit (.int .u8 22), .lit (.int .u8 53), .lit (.int .u8 39), .lit (.int .u8 33), .lit (.int .u8 30), .lit (.int .u8 24), .lit (.int .u8 18), .lit (.int .u8 12), .lit (.int .u8 5), .lit (.int .u8 63), .lit (.int .u8 55), .lit (.int .u8 48), .lit (.int .u8 27), .lit (.int .u8 60), .lit (.int .u8 41), .lit (.int .u8 37), .lit (.int .u8 16), .lit (.int .u8 46), .lit (.int .u8 35), .lit (.int .u8 44), .lit (.int .u8 21), .lit (.int .u8 52), .lit (.int .u8 32), .lit (.int .u8 23), .lit (.int .u8 11), .lit (.int .u8 54), .lit (.int .u8 26), .lit (.int .u8 40), .lit (.int .u8 15), .lit (.int .u8 34), .lit (.int .u8 20), .lit (.int .u8 31), .lit (.int .u8 10), .lit (.int .u8 25), .lit (.int .u8 14), .lit (.int .u8 19), .lit (.int .u8 9), .lit (.int .u8 13), .lit (.int .u8 8), .lit (.int .u8 7), .lit (.int .u8 6)]
def laid_internal_strconv_uint64pow10 {H : Type} : DataW H := .agg [.lit (.int .u64 1), .lit (.int .u64 10), .lit (.int .u64 100), .lit (.int .u64 1000), .lit (.int .u64 10000), .lit (.int .u64 100000), .lit (.int .u64 1000000), .lit (.int .u64 10000000), .lit (.int .u64 100000000), .lit (.int .u64 1000000000), .lit (.int .u64 10000000000), .lit (.int .u64 100000000000), .lit (.int .u64 1000000000000), .lit (.int .u64 10000000000000), .lit (.int .u64 100000000000000), .lit (.int .u64 1000000000000000), .lit (.int .u64 10000000000000000), .lit (.int .u64 100000000000000000), .lit (.int .u64 1000000000000000000), .lit (.int .u64 10000000000000000000)]

/-- 'laws.FnExactIsShade': WHATEVER THE INPUT: true; the input reads as it did. -/
def fnExactIsShadeSpec : ChangeSpec := { name := "fnExactIsShade", fn := fun _ => fun
  | [d] => { results := [.lit (.bool true)], args := [d] }
  | _ => none }
def fnExactIsShadeRow : OpenClaim := { program := "ytcfkgcdhioamnaadoor", sum := "d0ed9e78a7aa1607546e2c9246ca8934a8e12c3391fc5c73e2448dacf42433df", func := "loop.example/g01023/laws.FnExactIsShade", spec := "fnExactIsShade", inPlace := ["internal/bytealg.IndexByteString", "internal/bytealg.IndexString"], named := ["unicode/utf8.first", "unicode/utf8.acceptRanges", "internal/bytealg.MaxLen"], apart := false, laid := [("unicode/utf8.acceptRanges", laid_unicode_utf8_acceptRanges), ("unicode/utf8.first", laid_unicode_utf8_first)] }
def FnExactIsShadeSaid : Prop := fnExactIsShadeRow.holds Tryd.pinned (OpenSpec.ofChange fnExactIsShadeSpec)

/-- ITS FALSE NEIGHBOUR: 'it returns false'. Refute it at one input. -/
def fnExactIsShadeWrong : ChangeSpec := { name := "fnExactIsShade", fn := fun _ => fun
  | [d] => { results := [.lit (.bool false)], args := [d] }
  | _ => none }
def FnExactIsShadeWrongFalsely : Prop := fnExactIsShadeRow.holds Tryd.pinned (OpenSpec.ofChange fnExactIsShadeWrong)

/-- 'laws.FnExactShadeDistance': WHATEVER THE INPUT: true; the input reads as it did. -/
def fnExactShadeDistanceSpec : ChangeSpec := { name := "fnExactShadeDistance", fn := fun _ => fun
  | [d1, d2] => { results := [.lit (.bool true)], args := [d1, d2] }
  | _ => none }
def fnExactShadeDistanceRow : OpenClaim := { program := "ytcfkgcdhioamnaadoor", sum := "d0ed9e78a7aa1607546e2c9246ca8934a8e12c3391fc5c73e2448dacf42433df", func := "loop.example/g01023/laws.FnExactShadeDistance", spec := "fnExactShadeDistance", inPlace := ["internal/bytealg.IndexByteString", "internal/bytealg.IndexString"], named := ["unicode/utf8.first", "unicode/utf8.acceptRanges", "internal/bytealg.MaxLen"], apart := false, laid := [("unicode/utf8.acceptRanges", laid_unicode_utf8_acceptRanges), ("unicode/utf8.first", laid_unicode_utf8_first)] }
def FnExactShadeDistanceSaid : Prop := fnExactShadeDistanceRow.holds Tryd.pinned (OpenSpec.ofChange fnExactShadeDistanceSpec)

/-- ITS FALSE NEIGHBOUR: 'it returns false'. Refute it at one input. -/
def fnExactShadeDistanceWrong : ChangeSpec := { name := "fnExactShadeDistance", fn := fun _ => fun
  | [d1, d2] => { results := [.lit (.bool false)], args := [d1, d2] }
  | _ => none }
def FnExactShadeDistanceWrongFalsely : Prop := fnExactShadeDistanceRow.holds Tryd.pinned (OpenSpec.ofChange fnExactShadeDistanceWrong)

/-- 'laws.FnExactFadedShade': WHATEVER THE INPUT: true; the input reads as it did. -/
def fnExactFadedShadeSpec : ChangeSpec := { name := "fnExactFadedShade", fn := fun _ => fun
  | [d1, d2] => { results := [.lit (.bool true)], args := [d1, d2] }
  | _ => none }
def fnExactFadedShadeRow : OpenClaim := { program := "ytcfkgcdhioamnaadoor", sum := "d0ed9e78a7aa1607546e2c9246ca8934a8e12c3391fc5c73e2448dacf42433df", func := "loop.example/g01023/laws.FnExactFadedShade", spec := "fnExactFadedShade", inPlace := ["internal/bytealg.IndexByteString", "internal/bytealg.IndexString"], named := ["unicode/utf8.first", "unicode/utf8.acceptRanges", "internal/bytealg.MaxLen"], apart := false, laid := [("unicode/utf8.acceptRanges", laid_unicode_utf8_acceptRanges), ("unicode/utf8.first", laid_unicode_utf8_first)] }
def FnExactFadedShadeSaid : Prop := fnExactFadedShadeRow.holds Tryd.pinned (OpenSpec.ofChange fnExactFadedShadeSpec)

/-- ITS FALSE NEIGHBOUR: 'it returns false'. Refute it at one input. -/
def fnExactFadedShadeWrong : ChangeSpec := { name := "fnExactFadedShade", fn := fun _ => fun
  | [d1, d2] => { results := [.lit (.bool false)], args := [d1, d2] }
  | _ => none }
def FnExactFadedShadeWrongFalsely : Prop := fnExactFadedShadeRow.holds Tryd.pinned (OpenSpec.ofChange fnExactFadedShadeWrong)

/-- 'laws.FnExactNearestShade': WHATEVER THE INPUT: true; the input reads as it did. -/
def fnExactNearestShadeSpec : ChangeSpec := { name := "fnExactNearestShade", fn := fun _ => fun
  | [d1, d2, d3] => { results := [.lit (.bool true)], args := [d1, d2, d3] }
  | _ => none }
def fnExactNearestShadeRow : OpenClaim := { program := "ytcfkgcdhioamnaadoor", sum := "d0ed9e78a7aa1607546e2c9246ca8934a8e12c3391fc5c73e2448dacf42433df", func := "loop.example/g01023/laws.FnExactNearestShade", spec := "fnExactNearestShade", inPlace := ["internal/bytealg.IndexByteString", "internal/bytealg.IndexString"], unfollowed := true, recurses := true, named := ["unicode/utf8.first", "unicode/utf8.acceptRanges", "internal/bytealg.MaxLen"], apart := false, laid := [("unicode/utf8.acceptRanges", laid_unicode_utf8_acceptRanges), ("unicode/utf8.first", laid_unicode_utf8_first)] }
def FnExactNearestShadeSaid : Prop := fnExactNearestShadeRow.holds Tryd.pinned (OpenSpec.ofChange fnExactNearestShadeSpec)

/-- ITS FALSE NEIGHBOUR: 'it returns false'. Refute it at one input. -/
def fnExactNearestShadeWrong : ChangeSpec := { name := "fnExactNearestShade", fn := fun _ => fun
  | [d1, d2, d3] => { results := [.lit (.bool false)], args := [d1, d2, d3] }
  | _ => none }
def FnExactNearestShadeWrongFalsely : Prop := fnExactNearestShadeRow.holds Tryd.pinned (OpenSpec.ofChange fnExactNearestShadeWrong)

/-- 'laws.FnExactTriadsOf': WHATEVER THE INPUT: true; the input reads as it did. -/
def fnExactTriadsOfSpec : ChangeSpec := { name := "fnExactTriadsOf", fn := fun _ => fun
  | [d1, d2] => { results := [.lit (.bool true)], args := [d1, d2] }
  | _ => none }
def fnExactTriadsOfRow : OpenClaim := { program := "ytcfkgcdhioamnaadoor", sum := "d0ed9e78a7aa1607546e2c9246ca8934a8e12c3391fc5c73e2448dacf42433df", func := "loop.example/g01023/laws.FnExactTriadsOf", spec := "fnExactTriadsOf", inPlace := ["internal/bytealg.IndexByteString", "internal/bytealg.IndexString"], unfollowed := true, recurses := true, named := ["unicode/utf8.first", "unicode/utf8.acceptRanges", "internal/bytealg.MaxLen"], apart := false, laid := [("unicode/utf8.acceptRanges", laid_unicode_utf8_acceptRanges), ("unicode/utf8.first", laid_unicode_utf8_first)] }
def FnExactTriadsOfSaid : Prop := fnExactTriadsOfRow.holds Tryd.pinned (OpenSpec.ofChange fnExactTriadsOfSpec)

/-- ITS FALSE NEIGHBOUR: 'it returns false'. Refute it at one input. -/
def fnExactTriadsOfWrong : ChangeSpec := { name := "fnExactTriadsOf", fn := fun _ => fun
  | [d1, d2] => { results := [.lit (.bool false)], args := [d1, d2] }
  | _ => none }
def FnExactTriadsOfWrongFalsely : Prop := fnExactTriadsOfRow.holds Tryd.pinned (OpenSpec.ofChange fnExactTriadsOfWrong)

/-- 'laws.FnExactFadedApart': WHATEVER THE INPUT: true; the input reads as it did. -/
def fnExactFadedApartSpec : ChangeSpec := { name := "fnExactFadedApart", fn := fun _ => fun
  | [d1, d2, d3] => { results := [.lit (.bool true)], args := [d1, d2, d3] }
  | _ => none }
def fnExactFadedApartRow : OpenClaim := { program := "ytcfkgcdhioamnaadoor", sum := "d0ed9e78a7aa1607546e2c9246ca8934a8e12c3391fc5c73e2448dacf42433df", func := "loop.example/g01023/laws.FnExactFadedApart", spec := "fnExactFadedApart", inPlace := ["internal/bytealg.IndexByteString", "internal/bytealg.IndexString"], unfollowed := true, recurses := true, named := ["unicode/utf8.first", "unicode/utf8.acceptRanges", "internal/bytealg.MaxLen"], apart := false, laid := [("unicode/utf8.acceptRanges", laid_unicode_utf8_acceptRanges), ("unicode/utf8.first", laid_unicode_utf8_first)] }
def FnExactFadedApartSaid : Prop := fnExactFadedApartRow.holds Tryd.pinned (OpenSpec.ofChange fnExactFadedApartSpec)

/-- ITS FALSE NEIGHBOUR: 'it returns false'. Refute it at one input. -/
def fnExactFadedApartWrong : ChangeSpec := { name := "fnExactFadedApart", fn := fun _ => fun
  | [d1, d2, d3] => { results := [.lit (.bool false)], args := [d1, d2, d3] }
  | _ => none }
def FnExactFadedApartWrongFalsely : Prop := fnExactFadedApartRow.holds Tryd.pinned (OpenSpec.ofChange fnExactFadedApartWrong)

/-- 'laws.FnExactShadeText': WHATEVER THE INPUT: true; the input reads as it did. -/
def fnExactShadeTextSpec : ChangeSpec := { name := "fnExactShadeText", fn := fun _ => fun
  | [d] => { results := [.lit (.bool true)], args := [d] }
  | _ => none }
def fnExactShadeTextRow : OpenClaim := { program := "ytcfkgcdhioamnaadoor", sum := "d0ed9e78a7aa1607546e2c9246ca8934a8e12c3391fc5c73e2448dacf42433df", func := "loop.example/g01023/laws.FnExactShadeText", spec := "fnExactShadeText", inPlace := ["internal/bytealg.IndexByteString", "internal/bytealg.IndexString"], recurses := true, named := ["unicode/utf8.first", "unicode/utf8.acceptRanges", "internal/strconv.uint64pow10", "math/bits.deBruijn32tab", "math/bits.deBruijn64tab", "internal/bytealg.MaxLen"], apart := false, laid := [("math/bits.deBruijn32tab", laid_math_bits_deBruijn32tab), ("math/bits.deBruijn64tab", laid_math_bits_deBruijn64tab), ("internal/strconv.uint64pow10", laid_internal_strconv_uint64pow10), ("unicode/utf8.acceptRanges", laid_unicode_utf8_acceptRanges), ("unicode/utf8.first", laid_unicode_utf8_first)] }
def FnExactShadeTextSaid : Prop := fnExactShadeTextRow.holds Tryd.pinned (OpenSpec.ofChange fnExactShadeTextSpec)

/-- ITS FALSE NEIGHBOUR: 'it returns false'. Refute it at one input. -/
def fnExactShadeTextWrong : ChangeSpec := { name := "fnExactShadeText", fn := fun _ => fun
  | [d] => { results := [.lit (.bool false)], args := [d] }
  | _ => none }
def FnExactShadeTextWrongFalsely : Prop := fnExactShadeTextRow.holds Tryd.pinned (OpenSpec.ofChange fnExactShadeTextWrong)

/- THE SECOND FORM. 'bulk': how many values and letters a reading holds, each counted each time it is reached (what is shared counts as often as it is met; a slice's spare places count too). A statement '..UptoSaid' is the law's where the arguments, and the package variables that the reading takes, are together of bulk at most 1048576: NARROWER than '..Said'. Prove '..Said' where nothing that the law and all that it calls make is longer than what came in: it says more and counts as full. Else prove '..UptoSaid'. A law counts once. -/
mutual
def uptoBulk {H : Type} : DataW H → Nat
  | .lit (.string bytes) => bytes.length + 1
  | .lit _ => 1
  | .nil => 1
  | .ptr d => uptoBulk d + 1
  | .slice elems spare => uptoBulkAll elems + uptoBulkAll spare + 1
  | .agg parts => uptoBulkAll parts + 1
  | .iface _ d => uptoBulk d + 1
  | .map entries => uptoBulkEntries entries + 1
  | .held _ => 1
def uptoBulkAll {H : Type} : List (DataW H) → Nat
  | [] => 0
  | d :: r => uptoBulk d + uptoBulkAll r
def uptoBulkEntries {H : Type} : List (Lit × DataW H) → Nat
  | [] => 0
  | x :: r => uptoBulkEntry x + uptoBulkEntries r
def uptoBulkEntry {H : Type} : Lit × DataW H → Nat
  | (.string bytes, d) => bytes.length + uptoBulk d + 1
  | (_, d) => uptoBulk d + 1
 end
def uptoSmall : (H : Type) → List (DataW H) → Bool := fun _ ds => decide (uptoBulkAll ds ≤ 1048576)
def OpenSpec.upto (s : _root_.Go.ChangeSpec) : _root_.Go.OpenSpec := { _root_.Go.OpenSpec.ofChange s with cond := some uptoSmall }

/-- 'laws.FnExactIsShade', WHERE WHAT IT READS IS OF BULK AT MOST 1048576: true; the input reads as it did. -/
def fnExactIsShadeUptoRow : OpenClaim := { program := "ytcfkgcdhioamnaadoor", sum := "d0ed9e78a7aa1607546e2c9246ca8934a8e12c3391fc5c73e2448dacf42433df", func := "loop.example/g01023/laws.FnExactIsShade", spec := "fnExactIsShade", inPlace := ["internal/bytealg.IndexByteString", "internal/bytealg.IndexString"], named := ["unicode/utf8.first", "unicode/utf8.acceptRanges", "internal/bytealg.MaxLen"], apart := false, laid := [("unicode/utf8.acceptRanges", laid_unicode_utf8_acceptRanges), ("unicode/utf8.first", laid_unicode_utf8_first)], narrowed := true }
def FnExactIsShadeUptoSaid : Prop := fnExactIsShadeUptoRow.holds Tryd.pinned (OpenSpec.upto fnExactIsShadeSpec)

/-- 'laws.FnExactShadeDistance', WHERE WHAT IT READS IS OF BULK AT MOST 1048576: true; the input reads as it did. -/
def fnExactShadeDistanceUptoRow : OpenClaim := { program := "ytcfkgcdhioamnaadoor", sum := "d0ed9e78a7aa1607546e2c9246ca8934a8e12c3391fc5c73e2448dacf42433df", func := "loop.example/g01023/laws.FnExactShadeDistance", spec := "fnExactShadeDistance", inPlace := ["internal/bytealg.IndexByteString", "internal/bytealg.IndexString"], named := ["unicode/utf8.first", "unicode/utf8.acceptRanges", "internal/bytealg.MaxLen"], apart := false, laid := [("unicode/utf8.acceptRanges", laid_unicode_utf8_acceptRanges), ("unicode/utf8.first", laid_unicode_utf8_first)], narrowed := true }
def FnExactShadeDistanceUptoSaid : Prop := fnExactShadeDistanceUptoRow.holds Tryd.pinned (OpenSpec.upto fnExactShadeDistanceSpec)

/-- 'laws.FnExactFadedShade', WHERE WHAT IT READS IS OF BULK AT MOST 1048576: true; the input reads as it did. -/
def fnExactFadedShadeUptoRow : OpenClaim := { program := "ytcfkgcdhioamnaadoor", sum := "d0ed9e78a7aa1607546e2c9246ca8934a8e12c3391fc5c73e2448dacf42433df", func := "loop.example/g01023/laws.FnExactFadedShade", spec := "fnExactFadedShade", inPlace := ["internal/bytealg.IndexByteString", "internal/bytealg.IndexString"], named := ["unicode/utf8.first", "unicode/utf8.acceptRanges", "internal/bytealg.MaxLen"], apart := false, laid := [("unicode/utf8.acceptRanges", laid_unicode_utf8_acceptRanges), ("unicode/utf8.first", laid_unicode_utf8_first)], narrowed := true }
def FnExactFadedShadeUptoSaid : Prop := fnExactFadedShadeUptoRow.holds Tryd.pinned (OpenSpec.upto fnExactFadedShadeSpec)

/-- 'laws.FnExactNearestShade', WHERE WHAT IT READS IS OF BULK AT MOST 1048576: true; the input reads as it did. -/
def fnExactNearestShadeUptoRow : OpenClaim := { program := "ytcfkgcdhioamnaadoor", sum := "d0ed9e78a7aa1607546e2c9246ca8934a8e12c3391fc5c73e2448dacf42433df", func := "loop.example/g01023/laws.FnExactNearestShade", spec := "fnExactNearestShade", inPlace := ["internal/bytealg.IndexByteString", "internal/bytealg.IndexString"], unfollowed := true, recurses := true, named := ["unicode/utf8.first", "unicode/utf8.acceptRanges", "internal/bytealg.MaxLen"], apart := false, laid := [("unicode/utf8.acceptRanges", laid_unicode_utf8_acceptRanges), ("unicode/utf8.first", laid_unicode_utf8_first)], narrowed := true }
def FnExactNearestShadeUptoSaid : Prop := fnExactNearestShadeUptoRow.holds Tryd.pinned (OpenSpec.upto fnExactNearestShadeSpec)

/-- 'laws.FnExactTriadsOf', WHERE WHAT IT READS IS OF BULK AT MOST 1048576: true; the input reads as it did. -/
def fnExactTriadsOfUptoRow : OpenClaim := { program := "ytcfkgcdhioamnaadoor", sum := "d0ed9e78a7aa1607546e2c9246ca8934a8e12c3391fc5c73e2448dacf42433df", func := "loop.example/g01023/laws.FnExactTriadsOf", spec := "fnExactTriadsOf", inPlace := ["internal/bytealg.IndexByteString", "internal/bytealg.IndexString"], unfollowed := true, recurses := true, named := ["unicode/utf8.first", "unicode/utf8.acceptRanges", "internal/bytealg.MaxLen"], apart := false, laid := [("unicode/utf8.acceptRanges", laid_unicode_utf8_acceptRanges), ("unicode/utf8.first", laid_unicode_utf8_first)], narrowed := true }
def FnExactTriadsOfUptoSaid : Prop := fnExactTriadsOfUptoRow.holds Tryd.pinned (OpenSpec.upto fnExactTriadsOfSpec)

/-- 'laws.FnExactFadedApart', WHERE WHAT IT READS IS OF BULK AT MOST 1048576: true; the input reads as it did. -/
def fnExactFadedApartUptoRow : OpenClaim := { program := "ytcfkgcdhioamnaadoor", sum := "d0ed9e78a7aa1607546e2c9246ca8934a8e12c3391fc5c73e2448dacf42433df", func := "loop.example/g01023/laws.FnExactFadedApart", spec := "fnExactFadedApart", inPlace := ["internal/bytealg.IndexByteString", "internal/bytealg.IndexString"], unfollowed := true, recurses := true, named := ["unicode/utf8.first", "unicode/utf8.acceptRanges", "internal/bytealg.MaxLen"], apart := false, laid := [("unicode/utf8.acceptRanges", laid_unicode_utf8_acceptRanges), ("unicode/utf8.first", laid_unicode_utf8_first)], narrowed := true }
def FnExactFadedApartUptoSaid : Prop := fnExactFadedApartUptoRow.holds Tryd.pinned (OpenSpec.upto fnExactFadedApartSpec)

/-- 'laws.FnExactShadeText', WHERE WHAT IT READS IS OF BULK AT MOST 1048576: true; the input reads as it did. -/
def fnExactShadeTextUptoRow : OpenClaim := { program := "ytcfkgcdhioamnaadoor", sum := "d0ed9e78a7aa1607546e2c9246ca8934a8e12c3391fc5c73e2448dacf42433df", func := "loop.example/g01023/laws.FnExactShadeText", spec := "fnExactShadeText", inPlace := ["internal/bytealg.IndexByteString", "internal/bytealg.IndexString"], recurses := true, named := ["unicode/utf8.first", "unicode/utf8.acceptRanges", "internal/strconv.uint64pow10", "math/bits.deBruijn32tab", "math/bits.deBruijn64tab", "internal/bytealg.MaxLen"], apart := false, laid := [("math/bits.deBruijn32tab", laid_math_bits_deBruijn32tab), ("math/bits.deBruijn64tab", laid_math_bits_deBruijn64tab), ("internal/strconv.uint64pow10", laid_internal_strconv_uint64pow10), ("unicode/utf8.acceptRanges", laid_unicode_utf8_acceptRanges), ("unicode/utf8.first", laid_unicode_utf8_first)], narrowed := true }
def FnExactShadeTextUptoSaid : Prop := fnExactShadeTextUptoRow.holds Tryd.pinned (OpenSpec.upto fnExactShadeTextSpec)

end Rows
end Go.Proofs.YtcfkgcdhioamnaaDoor
