/-
  No cell of these rows narrows 'for every input' (looked for: loops, veiled, ifaces, maps, wideKeys, modest, calm, conditions, laid).
  DERIVED. THE GIVEN ROWS OF THIS SEAT. 11 by the template 'for every input the law returns true; each argument reads behind the call as it read before'; 0 by the template 'total and deterministic' (their statements: YtkjfoejiickphaaTotals.lean).
  GIVEN WITH THE SEED: the statements are not yours to turn. If you find one false, say at which input.
  Laid BY PROGRAM, IN A SANDBOX (cutbox-rows.mjs): the forced cells as the released guide's own fill.sh prints them over the translation c6b32c1769db208a… (all of the seat's roots in one cut). By AI agents, Wed Nov 11 2026. No macro, syntax, notation, axiom, sorry.
-/
import Derived.Test.YtkjfoejiickphaaChecked
import GoSem.Claim
import GoSem.ClaimJoined
import GoSem.ClaimMapViews
import Derived.JoinedTies
import Derived.KernelRfl
namespace Go.Proofs.Ytkjfoejiickphaa
/- THE CELL 'sum', in the pinned program and in every row, IS THE sha256 OF THE DUMP (.gsa) THAT YtkjfoejiickphaaProg.lean LOADS. Nothing in Lean hashes anything: it is a label: what it is worth is what the hold of that sum in a sandbox is worth. -/
noncomputable def Try.pinned : Pinned := { name := "ytkjfoejiickphaa", sum := "c6b32c1769db208a2dba57e6244aa6cdd0bf2e87d7edf35980dd0bb76dc80238", checked := Try.checked }
namespace Rows
def none {H : Type} : Left H := { results := [], args := [] }

/-- 'laws.FnExactPlainChart': WHATEVER THE INPUT: true; the input reads as it did. -/
def fnExactPlainChartSpec : ChangeSpec := { name := "fnExactPlainChart", fn := fun _ => fun
  | [d1, d2, d3] => { results := [.lit (.bool true)], args := [d1, d2, d3] }
  | _ => none }
def fnExactPlainChartRow : OpenClaim := { program := "ytkjfoejiickphaa", sum := "c6b32c1769db208a2dba57e6244aa6cdd0bf2e87d7edf35980dd0bb76dc80238", func := "loop.example/g01023/laws.FnExactPlainChart", spec := "fnExactPlainChart", unfollowed := true, recurses := true, apart := false }
def FnExactPlainChartSaid : Prop := fnExactPlainChartRow.holds Try.pinned (OpenSpec.ofChange fnExactPlainChartSpec)

/-- ITS FALSE NEIGHBOUR: 'it returns false'. Refute it at one input. -/
def fnExactPlainChartWrong : ChangeSpec := { name := "fnExactPlainChart", fn := fun _ => fun
  | [d1, d2, d3] => { results := [.lit (.bool false)], args := [d1, d2, d3] }
  | _ => none }
def FnExactPlainChartWrongFalsely : Prop := fnExactPlainChartRow.holds Try.pinned (OpenSpec.ofChange fnExactPlainChartWrong)

/-- 'laws.FnExactIsChart': WHATEVER THE INPUT: true; the input reads as it did. -/
def fnExactIsChartSpec : ChangeSpec := { name := "fnExactIsChart", fn := fun _ => fun
  | [d] => { results := [.lit (.bool true)], args := [d] }
  | _ => none }
def fnExactIsChartRow : OpenClaim := { program := "ytkjfoejiickphaa", sum := "c6b32c1769db208a2dba57e6244aa6cdd0bf2e87d7edf35980dd0bb76dc80238", func := "loop.example/g01023/laws.FnExactIsChart", spec := "fnExactIsChart", unfollowed := true, recurses := true, apart := false }
def FnExactIsChartSaid : Prop := fnExactIsChartRow.holds Try.pinned (OpenSpec.ofChange fnExactIsChartSpec)

/-- ITS FALSE NEIGHBOUR: 'it returns false'. Refute it at one input. -/
def fnExactIsChartWrong : ChangeSpec := { name := "fnExactIsChart", fn := fun _ => fun
  | [d] => { results := [.lit (.bool false)], args := [d] }
  | _ => none }
def FnExactIsChartWrongFalsely : Prop := fnExactIsChartRow.holds Try.pinned (OpenSpec.ofChange fnExactIsChartWrong)

/-- 'laws.FnExactKnotAt': WHATEVER THE INPUT: true; the input reads as it did. -/
def fnExactKnotAtSpec : ChangeSpec := { name := "fnExactKnotAt", fn := fun _ => fun
  | [d1, d2, d3] => { results := [.lit (.bool true)], args := [d1, d2, d3] }
  | _ => none }
def fnExactKnotAtRow : OpenClaim := { program := "ytkjfoejiickphaa", sum := "c6b32c1769db208a2dba57e6244aa6cdd0bf2e87d7edf35980dd0bb76dc80238", func := "loop.example/g01023/laws.FnExactKnotAt", spec := "fnExactKnotAt", unfollowed := true, recurses := true, apart := false }
def FnExactKnotAtSaid : Prop := fnExactKnotAtRow.holds Try.pinned (OpenSpec.ofChange fnExactKnotAtSpec)

/-- ITS FALSE NEIGHBOUR: 'it returns false'. Refute it at one input. -/
def fnExactKnotAtWrong : ChangeSpec := { name := "fnExactKnotAt", fn := fun _ => fun
  | [d1, d2, d3] => { results := [.lit (.bool false)], args := [d1, d2, d3] }
  | _ => none }
def FnExactKnotAtWrongFalsely : Prop := fnExactKnotAtRow.holds Try.pinned (OpenSpec.ofChange fnExactKnotAtWrong)

/-- 'laws.FnExactCountColors': WHATEVER THE INPUT: true; the input reads as it did. -/
def fnExactCountColorsSpec : ChangeSpec := { name := "fnExactCountColors", fn := fun _ => fun
  | [d] => { results := [.lit (.bool true)], args := [d] }
  | _ => none }
def fnExactCountColorsRow : OpenClaim := { program := "ytkjfoejiickphaa", sum := "c6b32c1769db208a2dba57e6244aa6cdd0bf2e87d7edf35980dd0bb76dc80238", func := "loop.example/g01023/laws.FnExactCountColors", spec := "fnExactCountColors", unfollowed := true, recurses := true, apart := false }
def FnExactCountColorsSaid : Prop := fnExactCountColorsRow.holds Try.pinned (OpenSpec.ofChange fnExactCountColorsSpec)

/-- ITS FALSE NEIGHBOUR: 'it returns false'. Refute it at one input. -/
def fnExactCountColorsWrong : ChangeSpec := { name := "fnExactCountColors", fn := fun _ => fun
  | [d] => { results := [.lit (.bool false)], args := [d] }
  | _ => none }
def FnExactCountColorsWrongFalsely : Prop := fnExactCountColorsRow.holds Try.pinned (OpenSpec.ofChange fnExactCountColorsWrong)

/-- 'laws.FnExactLongestRun': WHATEVER THE INPUT: true; the input reads as it did. -/
def fnExactLongestRunSpec : ChangeSpec := { name := "fnExactLongestRun", fn := fun _ => fun
  | [d] => { results := [.lit (.bool true)], args := [d] }
  | _ => none }
def fnExactLongestRunRow : OpenClaim := { program := "ytkjfoejiickphaa", sum := "c6b32c1769db208a2dba57e6244aa6cdd0bf2e87d7edf35980dd0bb76dc80238", func := "loop.example/g01023/laws.FnExactLongestRun", spec := "fnExactLongestRun", unfollowed := true, recurses := true, apart := false }
def FnExactLongestRunSaid : Prop := fnExactLongestRunRow.holds Try.pinned (OpenSpec.ofChange fnExactLongestRunSpec)

/-- ITS FALSE NEIGHBOUR: 'it returns false'. Refute it at one input. -/
def fnExactLongestRunWrong : ChangeSpec := { name := "fnExactLongestRun", fn := fun _ => fun
  | [d] => { results := [.lit (.bool false)], args := [d] }
  | _ => none }
def FnExactLongestRunWrongFalsely : Prop := fnExactLongestRunRow.holds Try.pinned (OpenSpec.ofChange fnExactLongestRunWrong)

/-- 'laws.FnExactPartOf': WHATEVER THE INPUT: true; the input reads as it did. -/
def fnExactPartOfSpec : ChangeSpec := { name := "fnExactPartOf", fn := fun _ => fun
  | [d1, d2, d3, d4, d5] => { results := [.lit (.bool true)], args := [d1, d2, d3, d4, d5] }
  | _ => none }
def fnExactPartOfRow : OpenClaim := { program := "ytkjfoejiickphaa", sum := "c6b32c1769db208a2dba57e6244aa6cdd0bf2e87d7edf35980dd0bb76dc80238", func := "loop.example/g01023/laws.FnExactPartOf", spec := "fnExactPartOf", unfollowed := true, recurses := true, apart := false }
def FnExactPartOfSaid : Prop := fnExactPartOfRow.holds Try.pinned (OpenSpec.ofChange fnExactPartOfSpec)

/-- ITS FALSE NEIGHBOUR: 'it returns false'. Refute it at one input. -/
def fnExactPartOfWrong : ChangeSpec := { name := "fnExactPartOf", fn := fun _ => fun
  | [d1, d2, d3, d4, d5] => { results := [.lit (.bool false)], args := [d1, d2, d3, d4, d5] }
  | _ => none }
def FnExactPartOfWrongFalsely : Prop := fnExactPartOfRow.holds Try.pinned (OpenSpec.ofChange fnExactPartOfWrong)

/-- 'laws.FnExactChartText': WHATEVER THE INPUT: true; the input reads as it did. -/
def fnExactChartTextSpec : ChangeSpec := { name := "fnExactChartText", fn := fun _ => fun
  | [d] => { results := [.lit (.bool true)], args := [d] }
  | _ => none }
def fnExactChartTextRow : OpenClaim := { program := "ytkjfoejiickphaa", sum := "c6b32c1769db208a2dba57e6244aa6cdd0bf2e87d7edf35980dd0bb76dc80238", func := "loop.example/g01023/laws.FnExactChartText", spec := "fnExactChartText", inPlace := ["internal/abi.NoEscape", "internal/bytealg.MakeNoZero"], unfollowed := true, recurses := true, apart := false }
def FnExactChartTextSaid : Prop := fnExactChartTextRow.holds Try.pinned (OpenSpec.ofChange fnExactChartTextSpec)

/-- ITS FALSE NEIGHBOUR: 'it returns false'. Refute it at one input. -/
def fnExactChartTextWrong : ChangeSpec := { name := "fnExactChartText", fn := fun _ => fun
  | [d] => { results := [.lit (.bool false)], args := [d] }
  | _ => none }
def FnExactChartTextWrongFalsely : Prop := fnExactChartTextRow.holds Try.pinned (OpenSpec.ofChange fnExactChartTextWrong)

/-- 'laws.FnExactNearestMeeting': WHATEVER THE INPUT: true; the input reads as it did. -/
def fnExactNearestMeetingSpec : ChangeSpec := { name := "fnExactNearestMeeting", fn := fun _ => fun
  | [d1, d2, d3] => { results := [.lit (.bool true)], args := [d1, d2, d3] }
  | _ => none }
def fnExactNearestMeetingRow : OpenClaim := { program := "ytkjfoejiickphaa", sum := "c6b32c1769db208a2dba57e6244aa6cdd0bf2e87d7edf35980dd0bb76dc80238", func := "loop.example/g01023/laws.FnExactNearestMeeting", spec := "fnExactNearestMeeting", apart := false }
def FnExactNearestMeetingSaid : Prop := fnExactNearestMeetingRow.holds Try.pinned (OpenSpec.ofChange fnExactNearestMeetingSpec)

/-- ITS FALSE NEIGHBOUR: 'it returns false'. Refute it at one input. -/
def fnExactNearestMeetingWrong : ChangeSpec := { name := "fnExactNearestMeeting", fn := fun _ => fun
  | [d1, d2, d3] => { results := [.lit (.bool false)], args := [d1, d2, d3] }
  | _ => none }
def FnExactNearestMeetingWrongFalsely : Prop := fnExactNearestMeetingRow.holds Try.pinned (OpenSpec.ofChange fnExactNearestMeetingWrong)

/-- 'laws.FnExactDoesMeet': WHATEVER THE INPUT: true; the input reads as it did. -/
def fnExactDoesMeetSpec : ChangeSpec := { name := "fnExactDoesMeet", fn := fun _ => fun
  | [d1, d2] => { results := [.lit (.bool true)], args := [d1, d2] }
  | _ => none }
def fnExactDoesMeetRow : OpenClaim := { program := "ytkjfoejiickphaa", sum := "c6b32c1769db208a2dba57e6244aa6cdd0bf2e87d7edf35980dd0bb76dc80238", func := "loop.example/g01023/laws.FnExactDoesMeet", spec := "fnExactDoesMeet", unfollowed := true, recurses := true, apart := false }
def FnExactDoesMeetSaid : Prop := fnExactDoesMeetRow.holds Try.pinned (OpenSpec.ofChange fnExactDoesMeetSpec)

/-- ITS FALSE NEIGHBOUR: 'it returns false'. Refute it at one input. -/
def fnExactDoesMeetWrong : ChangeSpec := { name := "fnExactDoesMeet", fn := fun _ => fun
  | [d1, d2] => { results := [.lit (.bool false)], args := [d1, d2] }
  | _ => none }
def FnExactDoesMeetWrongFalsely : Prop := fnExactDoesMeetRow.holds Try.pinned (OpenSpec.ofChange fnExactDoesMeetWrong)

/-- 'laws.FnExactCornersOf': WHATEVER THE INPUT: true; the input reads as it did. -/
def fnExactCornersOfSpec : ChangeSpec := { name := "fnExactCornersOf", fn := fun _ => fun
  | [d] => { results := [.lit (.bool true)], args := [d] }
  | _ => none }
def fnExactCornersOfRow : OpenClaim := { program := "ytkjfoejiickphaa", sum := "c6b32c1769db208a2dba57e6244aa6cdd0bf2e87d7edf35980dd0bb76dc80238", func := "loop.example/g01023/laws.FnExactCornersOf", spec := "fnExactCornersOf", unfollowed := true, recurses := true, apart := false }
def FnExactCornersOfSaid : Prop := fnExactCornersOfRow.holds Try.pinned (OpenSpec.ofChange fnExactCornersOfSpec)

/-- ITS FALSE NEIGHBOUR: 'it returns false'. Refute it at one input. -/
def fnExactCornersOfWrong : ChangeSpec := { name := "fnExactCornersOf", fn := fun _ => fun
  | [d] => { results := [.lit (.bool false)], args := [d] }
  | _ => none }
def FnExactCornersOfWrongFalsely : Prop := fnExactCornersOfRow.holds Try.pinned (OpenSpec.ofChange fnExactCornersOfWrong)

/-- 'laws.FnExactStripBorder': WHATEVER THE INPUT: true; the input reads as it did. -/
def fnExactStripBorderSpec : ChangeSpec := { name := "fnExactStripBorder", fn := fun _ => fun
  | [d] => { results := [.lit (.bool true)], args := [d] }
  | _ => none }
def fnExactStripBorderRow : OpenClaim := { program := "ytkjfoejiickphaa", sum := "c6b32c1769db208a2dba57e6244aa6cdd0bf2e87d7edf35980dd0bb76dc80238", func := "loop.example/g01023/laws.FnExactStripBorder", spec := "fnExactStripBorder", unfollowed := true, recurses := true, apart := false }
def FnExactStripBorderSaid : Prop := fnExactStripBorderRow.holds Try.pinned (OpenSpec.ofChange fnExactStripBorderSpec)

/-- ITS FALSE NEIGHBOUR: 'it returns false'. Refute it at one input. -/
def fnExactStripBorderWrong : ChangeSpec := { name := "fnExactStripBorder", fn := fun _ => fun
  | [d] => { results := [.lit (.bool false)], args := [d] }
  | _ => none }
def FnExactStripBorderWrongFalsely : Prop := fnExactStripBorderRow.holds Try.pinned (OpenSpec.ofChange fnExactStripBorderWrong)

/- THE SECOND FORM. 'bulk': how many values and letters a reading holds, each counted each time it is reached (what is shared counts as often as it is met; a slice's spare places count too). A statement '..UptoSaid' is the law's where the arguments, and the package variables that the reading takes, are together of bulk at most 1048576: NARROWER than '..Said'. Prove '..Said' where nothing that the law and all that it calls make is longer than what came in: it says more and counts as full. Else prove '..UptoSaid'. A law counts once. -/
mutual
def uptoBulk {H : Type} : DataW H → Nat
  | .lit (.string bytes) => bytes.length + 1
  | .lit _ => 1
  | .nil => 1
  | .ptr d => uptoBulk d + 1
  | .slice elems spare => uptoBulkAll elems + uptoBulkAll spare + 1
  | .agg parts => uptoBulkAll parts + 1
  | .iface _ d => uptoBulk d + 1
  | .map entries => uptoBulkEntries entries + 1
  | .held _ => 1
def uptoBulkAll {H : Type} : List (DataW H) → Nat
  | [] => 0
  | d :: r => uptoBulk d + uptoBulkAll r
def uptoBulkEntries {H : Type} : List (Lit × DataW H) → Nat
  | [] => 0
  | x :: r => uptoBulkEntry x + uptoBulkEntries r
def uptoBulkEntry {H : Type} : Lit × DataW H → Nat
  | (.string bytes, d) => bytes.length + uptoBulk d + 1
  | (_, d) => uptoBulk d + 1
 end
def uptoSmall : (H : Type) → List (DataW H) → Bool := fun _ ds => decide (uptoBulkAll ds ≤ 1048576)
def OpenSpec.upto (s : _root_.Go.ChangeSpec) : _root_.Go.OpenSpec := { _root_.Go.OpenSpec.ofChange s with cond := some uptoSmall }

/-- 'laws.FnExactPlainChart', WHERE WHAT IT READS IS OF BULK AT MOST 1048576: true; the input reads as it did. -/
def fnExactPlainChartUptoRow : OpenClaim := { program := "ytkjfoejiickphaa", sum := "c6b32c1769db208a2dba57e6244aa6cdd0bf2e87d7edf35980dd0bb76dc80238", func := "loop.example/g01023/laws.FnExactPlainChart", spec := "fnExactPlainChart", unfollowed := true, recurses := true, apart := false, narrowed := true }
def FnExactPlainChartUptoSaid : Prop := fnExactPlainChartUptoRow.holds Try.pinned (OpenSpec.upto fnExactPlainChartSpec)

/-- 'laws.FnExactIsChart', WHERE WHAT IT READS IS OF BULK AT MOST 1048576: true; the input reads as it did. -/
def fnExactIsChartUptoRow : OpenClaim := { program := "ytkjfoejiickphaa", sum := "c6b32c1769db208a2dba57e6244aa6cdd0bf2e87d7edf35980dd0bb76dc80238", func := "loop.example/g01023/laws.FnExactIsChart", spec := "fnExactIsChart", unfollowed := true, recurses := true, apart := false, narrowed := true }
def FnExactIsChartUptoSaid : Prop := fnExactIsChartUptoRow.holds Try.pinned (OpenSpec.upto fnExactIsChartSpec)

/-- 'laws.FnExactKnotAt', WHERE WHAT IT READS IS OF BULK AT MOST 1048576: true; the input reads as it did. -/
def fnExactKnotAtUptoRow : OpenClaim := { program := "ytkjfoejiickphaa", sum := "c6b32c1769db208a2dba57e6244aa6cdd0bf2e87d7edf35980dd0bb76dc80238", func := "loop.example/g01023/laws.FnExactKnotAt", spec := "fnExactKnotAt", unfollowed := true, recurses := true, apart := false, narrowed := true }
def FnExactKnotAtUptoSaid : Prop := fnExactKnotAtUptoRow.holds Try.pinned (OpenSpec.upto fnExactKnotAtSpec)

/-- 'laws.FnExactCountColors', WHERE WHAT IT READS IS OF BULK AT MOST 1048576: true; the input reads as it did. -/
def fnExactCountColorsUptoRow : OpenClaim := { program := "ytkjfoejiickphaa", sum := "c6b32c1769db208a2dba57e6244aa6cdd0bf2e87d7edf35980dd0bb76dc80238", func := "loop.example/g01023/laws.FnExactCountColors", spec := "fnExactCountColors", unfollowed := true, recurses := true, apart := false, narrowed := true }
def FnExactCountColorsUptoSaid : Prop := fnExactCountColorsUptoRow.holds Try.pinned (OpenSpec.upto fnExactCountColorsSpec)

/-- 'laws.FnExactLongestRun', WHERE WHAT IT READS IS OF BULK AT MOST 1048576: true; the input reads as it did. -/
def fnExactLongestRunUptoRow : OpenClaim := { program := "ytkjfoejiickphaa", sum := "c6b32c1769db208a2dba57e6244aa6cdd0bf2e87d7edf35980dd0bb76dc80238", func := "loop.example/g01023/laws.FnExactLongestRun", spec := "fnExactLongestRun", unfollowed := true, recurses := true, apart := false, narrowed := true }
def FnExactLongestRunUptoSaid : Prop := fnExactLongestRunUptoRow.holds Try.pinned (OpenSpec.upto fnExactLongestRunSpec)

/-- 'laws.FnExactPartOf', WHERE WHAT IT READS IS OF BULK AT MOST 1048576: true; the input reads as it did. -/
def fnExactPartOfUptoRow : OpenClaim := { program := "ytkjfoejiickphaa", sum := "c6b32c1769db208a2dba57e6244aa6cdd0bf2e87d7edf35980dd0bb76dc80238", func := "loop.example/g01023/laws.FnExactPartOf", spec := "fnExactPartOf", unfollowed := true, recurses := true, apart := false, narrowed := true }
def FnExactPartOfUptoSaid : Prop := fnExactPartOfUptoRow.holds Try.pinned (OpenSpec.upto fnExactPartOfSpec)

/-- 'laws.FnExactChartText', WHERE WHAT IT READS IS OF BULK AT MOST 1048576: true; the input reads as it did. -/
def fnExactChartTextUptoRow : OpenClaim := { program := "ytkjfoejiickphaa", sum := "c6b32c1769db208a2dba57e6244aa6cdd0bf2e87d7edf35980dd0bb76dc80238", func := "loop.example/g01023/laws.FnExactChartText", spec := "fnExactChartText", inPlace := ["internal/abi.NoEscape", "internal/bytealg.MakeNoZero"], unfollowed := true, recurses := true, apart := false, narrowed := true }
def FnExactChartTextUptoSaid : Prop := fnExactChartTextUptoRow.holds Try.pinned (OpenSpec.upto fnExactChartTextSpec)

/-- 'laws.FnExactNearestMeeting', WHERE WHAT IT READS IS OF BULK AT MOST 1048576: true; the input reads as it did. -/
def fnExactNearestMeetingUptoRow : OpenClaim := { program := "ytkjfoejiickphaa", sum := "c6b32c1769db208a2dba57e6244aa6cdd0bf2e87d7edf35980dd0bb76dc80238", func := "loop.example/g01023/laws.FnExactNearestMeeting", spec := "fnExactNearestMeeting", apart := false, narrowed := true }
def FnExactNearestMeetingUptoSaid : Prop := fnExactNearestMeetingUptoRow.holds Try.pinned (OpenSpec.upto fnExactNearestMeetingSpec)

/-- 'laws.FnExactDoesMeet', WHERE WHAT IT READS IS OF BULK AT MOST 1048576: true; the input reads as it did. -/
def fnExactDoesMeetUptoRow : OpenClaim := { program := "ytkjfoejiickphaa", sum := "c6b32c1769db208a2dba57e6244aa6cdd0bf2e87d7edf35980dd0bb76dc80238", func := "loop.example/g01023/laws.FnExactDoesMeet", spec := "fnExactDoesMeet", unfollowed := true, recurses := true, apart := false, narrowed := true }
def FnExactDoesMeetUptoSaid : Prop := fnExactDoesMeetUptoRow.holds Try.pinned (OpenSpec.upto fnExactDoesMeetSpec)

/-- 'laws.FnExactCornersOf', WHERE WHAT IT READS IS OF BULK AT MOST 1048576: true; the input reads as it did. -/
def fnExactCornersOfUptoRow : OpenClaim := { program := "ytkjfoejiickphaa", sum := "c6b32c1769db208a2dba57e6244aa6cdd0bf2e87d7edf35980dd0bb76dc80238", func := "loop.example/g01023/laws.FnExactCornersOf", spec := "fnExactCornersOf", unfollowed := true, recurses := true, apart := false, narrowed := true }
def FnExactCornersOfUptoSaid : Prop := fnExactCornersOfUptoRow.holds Try.pinned (OpenSpec.upto fnExactCornersOfSpec)

/-- 'laws.FnExactStripBorder', WHERE WHAT IT READS IS OF BULK AT MOST 1048576: true; the input reads as it did. -/
def fnExactStripBorderUptoRow : OpenClaim := { program := "ytkjfoejiickphaa", sum := "c6b32c1769db208a2dba57e6244aa6cdd0bf2e87d7edf35980dd0bb76dc80238", func := "loop.example/g01023/laws.FnExactStripBorder", spec := "fnExactStripBorder", unfollowed := true, recurses := true, apart := false, narrowed := true }
def FnExactStripBorderUptoSaid : Prop := fnExactStripBorderUptoRow.holds Try.pinned (OpenSpec.upto fnExactStripBorderSpec)

end Rows
end Go.Proofs.Ytkjfoejiickphaa
