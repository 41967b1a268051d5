/-
  No cell of these rows narrows 'for every input' (looked for: loops, veiled, ifaces, maps, wideKeys, modest, calm, conditions, laid).
  DERIVED. THE GIVEN ROWS OF THIS SEAT. 8 by the template 'for every input the law returns true; each argument reads behind the call as it read before'; 0 by the template 'total and deterministic' (their statements: YtfpnhkdoopmbjaaTotals.lean).
  GIVEN WITH THE SEED: the statements are not yours to turn. If you find one false, say at which input.
  Laid BY PROGRAM, IN A SANDBOX (cutbox-rows.mjs): the forced cells as the released guide's own fill.sh prints them over the translation eb3164a4ff223919… (all of the seat's roots in one cut). By AI agents, Wed Nov 11 2026. No macro, syntax, notation, axiom, sorry.
-/
import Derived.Test.YtfpnhkdoopmbjaaChecked
import GoSem.Claim
import GoSem.ClaimJoined
import GoSem.ClaimMapViews
import Derived.JoinedTies
import Derived.KernelRfl
namespace Go.Proofs.Ytfpnhkdoopmbjaa
/- THE CELL 'sum', in the pinned program and in every row, IS THE sha256 OF THE DUMP (.gsa) THAT YtfpnhkdoopmbjaaProg.lean LOADS. Nothing in Lean hashes anything: it is a label: what it is worth is what the hold of that sum in a sandbox is worth. -/
noncomputable def Try.pinned : Pinned := { name := "ytfpnhkdoopmbjaa", sum := "eb3164a4ff2239190a746ea97c59b7347355b651a4f381a771b994735ba70fea", checked := Try.checked }
namespace Rows
def none {H : Type} : Left H := { results := [], args := [] }

/-- 'laws.FnExactApartPlaces': WHATEVER THE INPUT: true; the input reads as it did. -/
def fnExactApartPlacesSpec : ChangeSpec := { name := "fnExactApartPlaces", fn := fun _ => fun
  | [d1, d2] => { results := [.lit (.bool true)], args := [d1, d2] }
  | _ => none }
def fnExactApartPlacesRow : OpenClaim := { program := "ytfpnhkdoopmbjaa", sum := "eb3164a4ff2239190a746ea97c59b7347355b651a4f381a771b994735ba70fea", func := "loop.example/g01023/laws.FnExactApartPlaces", spec := "fnExactApartPlaces", unfollowed := true, recurses := true, apart := false }
def FnExactApartPlacesSaid : Prop := fnExactApartPlacesRow.holds Try.pinned (OpenSpec.ofChange fnExactApartPlacesSpec)

/-- ITS FALSE NEIGHBOUR: 'it returns false'. Refute it at one input. -/
def fnExactApartPlacesWrong : ChangeSpec := { name := "fnExactApartPlaces", fn := fun _ => fun
  | [d1, d2] => { results := [.lit (.bool false)], args := [d1, d2] }
  | _ => none }
def FnExactApartPlacesWrongFalsely : Prop := fnExactApartPlacesRow.holds Try.pinned (OpenSpec.ofChange fnExactApartPlacesWrong)

/-- 'laws.FnExactHalfDrop': WHATEVER THE INPUT: true; the input reads as it did. -/
def fnExactHalfDropSpec : ChangeSpec := { name := "fnExactHalfDrop", fn := fun _ => fun
  | [d] => { results := [.lit (.bool true)], args := [d] }
  | _ => none }
def fnExactHalfDropRow : OpenClaim := { program := "ytfpnhkdoopmbjaa", sum := "eb3164a4ff2239190a746ea97c59b7347355b651a4f381a771b994735ba70fea", func := "loop.example/g01023/laws.FnExactHalfDrop", spec := "fnExactHalfDrop", unfollowed := true, recurses := true, apart := false }
def FnExactHalfDropSaid : Prop := fnExactHalfDropRow.holds Try.pinned (OpenSpec.ofChange fnExactHalfDropSpec)

/-- ITS FALSE NEIGHBOUR: 'it returns false'. Refute it at one input. -/
def fnExactHalfDropWrong : ChangeSpec := { name := "fnExactHalfDrop", fn := fun _ => fun
  | [d] => { results := [.lit (.bool false)], args := [d] }
  | _ => none }
def FnExactHalfDropWrongFalsely : Prop := fnExactHalfDropRow.holds Try.pinned (OpenSpec.ofChange fnExactHalfDropWrong)

/-- 'laws.FnExactMirrorRepeat': WHATEVER THE INPUT: true; the input reads as it did. -/
def fnExactMirrorRepeatSpec : ChangeSpec := { name := "fnExactMirrorRepeat", fn := fun _ => fun
  | [d1, d2] => { results := [.lit (.bool true)], args := [d1, d2] }
  | _ => none }
def fnExactMirrorRepeatRow : OpenClaim := { program := "ytfpnhkdoopmbjaa", sum := "eb3164a4ff2239190a746ea97c59b7347355b651a4f381a771b994735ba70fea", func := "loop.example/g01023/laws.FnExactMirrorRepeat", spec := "fnExactMirrorRepeat", unfollowed := true, recurses := true, apart := false }
def FnExactMirrorRepeatSaid : Prop := fnExactMirrorRepeatRow.holds Try.pinned (OpenSpec.ofChange fnExactMirrorRepeatSpec)

/-- ITS FALSE NEIGHBOUR: 'it returns false'. Refute it at one input. -/
def fnExactMirrorRepeatWrong : ChangeSpec := { name := "fnExactMirrorRepeat", fn := fun _ => fun
  | [d1, d2] => { results := [.lit (.bool false)], args := [d1, d2] }
  | _ => none }
def FnExactMirrorRepeatWrongFalsely : Prop := fnExactMirrorRepeatRow.holds Try.pinned (OpenSpec.ofChange fnExactMirrorRepeatWrong)

/-- 'laws.FnExactPeriodAcross': WHATEVER THE INPUT: true; the input reads as it did. -/
def fnExactPeriodAcrossSpec : ChangeSpec := { name := "fnExactPeriodAcross", fn := fun _ => fun
  | [d] => { results := [.lit (.bool true)], args := [d] }
  | _ => none }
def fnExactPeriodAcrossRow : OpenClaim := { program := "ytfpnhkdoopmbjaa", sum := "eb3164a4ff2239190a746ea97c59b7347355b651a4f381a771b994735ba70fea", func := "loop.example/g01023/laws.FnExactPeriodAcross", spec := "fnExactPeriodAcross", unfollowed := true, recurses := true, apart := false }
def FnExactPeriodAcrossSaid : Prop := fnExactPeriodAcrossRow.holds Try.pinned (OpenSpec.ofChange fnExactPeriodAcrossSpec)

/-- ITS FALSE NEIGHBOUR: 'it returns false'. Refute it at one input. -/
def fnExactPeriodAcrossWrong : ChangeSpec := { name := "fnExactPeriodAcross", fn := fun _ => fun
  | [d] => { results := [.lit (.bool false)], args := [d] }
  | _ => none }
def FnExactPeriodAcrossWrongFalsely : Prop := fnExactPeriodAcrossRow.holds Try.pinned (OpenSpec.ofChange fnExactPeriodAcrossWrong)

/-- 'laws.FnExactPeriodDown': WHATEVER THE INPUT: true; the input reads as it did. -/
def fnExactPeriodDownSpec : ChangeSpec := { name := "fnExactPeriodDown", fn := fun _ => fun
  | [d] => { results := [.lit (.bool true)], args := [d] }
  | _ => none }
def fnExactPeriodDownRow : OpenClaim := { program := "ytfpnhkdoopmbjaa", sum := "eb3164a4ff2239190a746ea97c59b7347355b651a4f381a771b994735ba70fea", func := "loop.example/g01023/laws.FnExactPeriodDown", spec := "fnExactPeriodDown", unfollowed := true, recurses := true, apart := false }
def FnExactPeriodDownSaid : Prop := fnExactPeriodDownRow.holds Try.pinned (OpenSpec.ofChange fnExactPeriodDownSpec)

/-- ITS FALSE NEIGHBOUR: 'it returns false'. Refute it at one input. -/
def fnExactPeriodDownWrong : ChangeSpec := { name := "fnExactPeriodDown", fn := fun _ => fun
  | [d] => { results := [.lit (.bool false)], args := [d] }
  | _ => none }
def FnExactPeriodDownWrongFalsely : Prop := fnExactPeriodDownRow.holds Try.pinned (OpenSpec.ofChange fnExactPeriodDownWrong)

/-- 'laws.FnExactPlacesOf': WHATEVER THE INPUT: true; the input reads as it did. -/
def fnExactPlacesOfSpec : ChangeSpec := { name := "fnExactPlacesOf", fn := fun _ => fun
  | [d1, d2] => { results := [.lit (.bool true)], args := [d1, d2] }
  | _ => none }
def fnExactPlacesOfRow : OpenClaim := { program := "ytfpnhkdoopmbjaa", sum := "eb3164a4ff2239190a746ea97c59b7347355b651a4f381a771b994735ba70fea", func := "loop.example/g01023/laws.FnExactPlacesOf", spec := "fnExactPlacesOf", unfollowed := true, recurses := true, apart := false }
def FnExactPlacesOfSaid : Prop := fnExactPlacesOfRow.holds Try.pinned (OpenSpec.ofChange fnExactPlacesOfSpec)

/-- ITS FALSE NEIGHBOUR: 'it returns false'. Refute it at one input. -/
def fnExactPlacesOfWrong : ChangeSpec := { name := "fnExactPlacesOf", fn := fun _ => fun
  | [d1, d2] => { results := [.lit (.bool false)], args := [d1, d2] }
  | _ => none }
def FnExactPlacesOfWrongFalsely : Prop := fnExactPlacesOfRow.holds Try.pinned (OpenSpec.ofChange fnExactPlacesOfWrong)

/-- 'laws.FnExactRepeatMotif': WHATEVER THE INPUT: true; the input reads as it did. -/
def fnExactRepeatMotifSpec : ChangeSpec := { name := "fnExactRepeatMotif", fn := fun _ => fun
  | [d1, d2, d3] => { results := [.lit (.bool true)], args := [d1, d2, d3] }
  | _ => none }
def fnExactRepeatMotifRow : OpenClaim := { program := "ytfpnhkdoopmbjaa", sum := "eb3164a4ff2239190a746ea97c59b7347355b651a4f381a771b994735ba70fea", func := "loop.example/g01023/laws.FnExactRepeatMotif", spec := "fnExactRepeatMotif", unfollowed := true, recurses := true, apart := false }
def FnExactRepeatMotifSaid : Prop := fnExactRepeatMotifRow.holds Try.pinned (OpenSpec.ofChange fnExactRepeatMotifSpec)

/-- ITS FALSE NEIGHBOUR: 'it returns false'. Refute it at one input. -/
def fnExactRepeatMotifWrong : ChangeSpec := { name := "fnExactRepeatMotif", fn := fun _ => fun
  | [d1, d2, d3] => { results := [.lit (.bool false)], args := [d1, d2, d3] }
  | _ => none }
def FnExactRepeatMotifWrongFalsely : Prop := fnExactRepeatMotifRow.holds Try.pinned (OpenSpec.ofChange fnExactRepeatMotifWrong)

/-- 'laws.FnExactSmallestMotif': WHATEVER THE INPUT: true; the input reads as it did. -/
def fnExactSmallestMotifSpec : ChangeSpec := { name := "fnExactSmallestMotif", fn := fun _ => fun
  | [d] => { results := [.lit (.bool true)], args := [d] }
  | _ => none }
def fnExactSmallestMotifRow : OpenClaim := { program := "ytfpnhkdoopmbjaa", sum := "eb3164a4ff2239190a746ea97c59b7347355b651a4f381a771b994735ba70fea", func := "loop.example/g01023/laws.FnExactSmallestMotif", spec := "fnExactSmallestMotif", unfollowed := true, recurses := true, apart := false }
def FnExactSmallestMotifSaid : Prop := fnExactSmallestMotifRow.holds Try.pinned (OpenSpec.ofChange fnExactSmallestMotifSpec)

/-- ITS FALSE NEIGHBOUR: 'it returns false'. Refute it at one input. -/
def fnExactSmallestMotifWrong : ChangeSpec := { name := "fnExactSmallestMotif", fn := fun _ => fun
  | [d] => { results := [.lit (.bool false)], args := [d] }
  | _ => none }
def FnExactSmallestMotifWrongFalsely : Prop := fnExactSmallestMotifRow.holds Try.pinned (OpenSpec.ofChange fnExactSmallestMotifWrong)

/- THE SECOND FORM. 'bulk': how many values and letters a reading holds, each counted each time it is reached (what is shared counts as often as it is met; a slice's spare places count too). A statement '..UptoSaid' is the law's where the arguments, and the package variables that the reading takes, are together of bulk at most 1048576: NARROWER than '..Said'. Prove '..Said' where nothing that the law and all that it calls make is longer than what came in: it says more and counts as full. Else prove '..UptoSaid'. A law counts once. -/
mutual
def uptoBulk {H : Type} : DataW H → Nat
  | .lit (.string bytes) => bytes.length + 1
  | .lit _ => 1
  | .nil => 1
  | .ptr d => uptoBulk d + 1
  | .slice elems spare => uptoBulkAll elems + uptoBulkAll spare + 1
  | .agg parts => uptoBulkAll parts + 1
  | .iface _ d => uptoBulk d + 1
  | .map entries => uptoBulkEntries entries + 1
  | .held _ => 1
def uptoBulkAll {H : Type} : List (DataW H) → Nat
  | [] => 0
  | d :: r => uptoBulk d + uptoBulkAll r
def uptoBulkEntries {H : Type} : List (Lit × DataW H) → Nat
  | [] => 0
  | x :: r => uptoBulkEntry x + uptoBulkEntries r
def uptoBulkEntry {H : Type} : Lit × DataW H → Nat
  | (.string bytes, d) => bytes.length + uptoBulk d + 1
  | (_, d) => uptoBulk d + 1
 end
def uptoSmall : (H : Type) → List (DataW H) → Bool := fun _ ds => decide (uptoBulkAll ds ≤ 1048576)
def OpenSpec.upto (s : _root_.Go.ChangeSpec) : _root_.Go.OpenSpec := { _root_.Go.OpenSpec.ofChange s with cond := some uptoSmall }

/-- 'laws.FnExactApartPlaces', WHERE WHAT IT READS IS OF BULK AT MOST 1048576: true; the input reads as it did. -/
def fnExactApartPlacesUptoRow : OpenClaim := { program := "ytfpnhkdoopmbjaa", sum := "eb3164a4ff2239190a746ea97c59b7347355b651a4f381a771b994735ba70fea", func := "loop.example/g01023/laws.FnExactApartPlaces", spec := "fnExactApartPlaces", unfollowed := true, recurses := true, apart := false, narrowed := true }
def FnExactApartPlacesUptoSaid : Prop := fnExactApartPlacesUptoRow.holds Try.pinned (OpenSpec.upto fnExactApartPlacesSpec)

/-- 'laws.FnExactHalfDrop', WHERE WHAT IT READS IS OF BULK AT MOST 1048576: true; the input reads as it did. -/
def fnExactHalfDropUptoRow : OpenClaim := { program := "ytfpnhkdoopmbjaa", sum := "eb3164a4ff2239190a746ea97c59b7347355b651a4f381a771b994735ba70fea", func := "loop.example/g01023/laws.FnExactHalfDrop", spec := "fnExactHalfDrop", unfollowed := true, recurses := true, apart := false, narrowed := true }
def FnExactHalfDropUptoSaid : Prop := fnExactHalfDropUptoRow.holds Try.pinned (OpenSpec.upto fnExactHalfDropSpec)

/-- 'laws.FnExactMirrorRepeat', WHERE WHAT IT READS IS OF BULK AT MOST 1048576: true; the input reads as it did. -/
def fnExactMirrorRepeatUptoRow : OpenClaim := { program := "ytfpnhkdoopmbjaa", sum := "eb3164a4ff2239190a746ea97c59b7347355b651a4f381a771b994735ba70fea", func := "loop.example/g01023/laws.FnExactMirrorRepeat", spec := "fnExactMirrorRepeat", unfollowed := true, recurses := true, apart := false, narrowed := true }
def FnExactMirrorRepeatUptoSaid : Prop := fnExactMirrorRepeatUptoRow.holds Try.pinned (OpenSpec.upto fnExactMirrorRepeatSpec)

/-- 'laws.FnExactPeriodAcross', WHERE WHAT IT READS IS OF BULK AT MOST 1048576: true; the input reads as it did. -/
def fnExactPeriodAcrossUptoRow : OpenClaim := { program := "ytfpnhkdoopmbjaa", sum := "eb3164a4ff2239190a746ea97c59b7347355b651a4f381a771b994735ba70fea", func := "loop.example/g01023/laws.FnExactPeriodAcross", spec := "fnExactPeriodAcross", unfollowed := true, recurses := true, apart := false, narrowed := true }
def FnExactPeriodAcrossUptoSaid : Prop := fnExactPeriodAcrossUptoRow.holds Try.pinned (OpenSpec.upto fnExactPeriodAcrossSpec)

/-- 'laws.FnExactPeriodDown', WHERE WHAT IT READS IS OF BULK AT MOST 1048576: true; the input reads as it did. -/
def fnExactPeriodDownUptoRow : OpenClaim := { program := "ytfpnhkdoopmbjaa", sum := "eb3164a4ff2239190a746ea97c59b7347355b651a4f381a771b994735ba70fea", func := "loop.example/g01023/laws.FnExactPeriodDown", spec := "fnExactPeriodDown", unfollowed := true, recurses := true, apart := false, narrowed := true }
def FnExactPeriodDownUptoSaid : Prop := fnExactPeriodDownUptoRow.holds Try.pinned (OpenSpec.upto fnExactPeriodDownSpec)

/-- 'laws.FnExactPlacesOf', WHERE WHAT IT READS IS OF BULK AT MOST 1048576: true; the input reads as it did. -/
def fnExactPlacesOfUptoRow : OpenClaim := { program := "ytfpnhkdoopmbjaa", sum := "eb3164a4ff2239190a746ea97c59b7347355b651a4f381a771b994735ba70fea", func := "loop.example/g01023/laws.FnExactPlacesOf", spec := "fnExactPlacesOf", unfollowed := true, recurses := true, apart := false, narrowed := true }
def FnExactPlacesOfUptoSaid : Prop := fnExactPlacesOfUptoRow.holds Try.pinned (OpenSpec.upto fnExactPlacesOfSpec)

/-- 'laws.FnExactRepeatMotif', WHERE WHAT IT READS IS OF BULK AT MOST 1048576: true; the input reads as it did. -/
def fnExactRepeatMotifUptoRow : OpenClaim := { program := "ytfpnhkdoopmbjaa", sum := "eb3164a4ff2239190a746ea97c59b7347355b651a4f381a771b994735ba70fea", func := "loop.example/g01023/laws.FnExactRepeatMotif", spec := "fnExactRepeatMotif", unfollowed := true, recurses := true, apart := false, narrowed := true }
def FnExactRepeatMotifUptoSaid : Prop := fnExactRepeatMotifUptoRow.holds Try.pinned (OpenSpec.upto fnExactRepeatMotifSpec)

/-- 'laws.FnExactSmallestMotif', WHERE WHAT IT READS IS OF BULK AT MOST 1048576: true; the input reads as it did. -/
def fnExactSmallestMotifUptoRow : OpenClaim := { program := "ytfpnhkdoopmbjaa", sum := "eb3164a4ff2239190a746ea97c59b7347355b651a4f381a771b994735ba70fea", func := "loop.example/g01023/laws.FnExactSmallestMotif", spec := "fnExactSmallestMotif", unfollowed := true, recurses := true, apart := false, narrowed := true }
def FnExactSmallestMotifUptoSaid : Prop := fnExactSmallestMotifUptoRow.holds Try.pinned (OpenSpec.upto fnExactSmallestMotifSpec)

end Rows
end Go.Proofs.Ytfpnhkdoopmbjaa
