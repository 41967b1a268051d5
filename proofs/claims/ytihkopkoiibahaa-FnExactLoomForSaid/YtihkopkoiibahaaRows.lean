/-
  No cell of these rows narrows 'for every input' (looked for: loops, veiled, ifaces, maps, wideKeys, modest, calm, conditions, laid).
  DERIVED. THE GIVEN ROWS OF THIS SEAT. 10 by the template 'for every input the law returns true; each argument reads behind the call as it read before'; 0 by the template 'total and deterministic' (their statements: YtihkopkoiibahaaTotals.lean).
  GIVEN WITH THE SEED: the statements are not yours to turn. If you find one false, say at which input.
  Laid BY PROGRAM, IN A SANDBOX (cutbox-rows.mjs): the forced cells as the released guide's own fill.sh prints them over the translation ca1e4277227effdb… (all of the seat's roots in one cut). By AI agents, Wed Nov 11 2026. No macro, syntax, notation, axiom, sorry.
-/
import Derived.Test.YtihkopkoiibahaaChecked
import GoSem.Claim
import GoSem.ClaimJoined
import GoSem.ClaimMapViews
import Derived.JoinedTies
import Derived.KernelRfl
namespace Go.Proofs.Ytihkopkoiibahaa
/- THE CELL 'sum', in the pinned program and in every row, IS THE sha256 OF THE DUMP (.gsa) THAT YtihkopkoiibahaaProg.lean LOADS. Nothing in Lean hashes anything: it is a label: what it is worth is what the hold of that sum in a sandbox is worth. -/
noncomputable def Try.pinned : Pinned := { name := "ytihkopkoiibahaa", sum := "ca1e4277227effdb0d1491f521882e4910c573d6dd575e7667c17f90788f807f", checked := Try.checked }
namespace Rows
def none {H : Type} : Left H := { results := [], args := [] }

/-- 'laws.FnExactIsLoom': WHATEVER THE INPUT: true; the input reads as it did. -/
def fnExactIsLoomSpec : ChangeSpec := { name := "fnExactIsLoom", fn := fun _ => fun
  | [d] => { results := [.lit (.bool true)], args := [d] }
  | _ => none }
def fnExactIsLoomRow : OpenClaim := { program := "ytihkopkoiibahaa", sum := "ca1e4277227effdb0d1491f521882e4910c573d6dd575e7667c17f90788f807f", func := "loop.example/g01023/laws.FnExactIsLoom", spec := "fnExactIsLoom", apart := false }
def FnExactIsLoomSaid : Prop := fnExactIsLoomRow.holds Try.pinned (OpenSpec.ofChange fnExactIsLoomSpec)

/-- ITS FALSE NEIGHBOUR: 'it returns false'. Refute it at one input. -/
def fnExactIsLoomWrong : ChangeSpec := { name := "fnExactIsLoom", fn := fun _ => fun
  | [d] => { results := [.lit (.bool false)], args := [d] }
  | _ => none }
def FnExactIsLoomWrongFalsely : Prop := fnExactIsLoomRow.holds Try.pinned (OpenSpec.ofChange fnExactIsLoomWrong)

/-- 'laws.FnExactAreLooms': WHATEVER THE INPUT: true; the input reads as it did. -/
def fnExactAreLoomsSpec : ChangeSpec := { name := "fnExactAreLooms", fn := fun _ => fun
  | [d] => { results := [.lit (.bool true)], args := [d] }
  | _ => none }
def fnExactAreLoomsRow : OpenClaim := { program := "ytihkopkoiibahaa", sum := "ca1e4277227effdb0d1491f521882e4910c573d6dd575e7667c17f90788f807f", func := "loop.example/g01023/laws.FnExactAreLooms", spec := "fnExactAreLooms", unfollowed := true, recurses := true, apart := false }
def FnExactAreLoomsSaid : Prop := fnExactAreLoomsRow.holds Try.pinned (OpenSpec.ofChange fnExactAreLoomsSpec)

/-- ITS FALSE NEIGHBOUR: 'it returns false'. Refute it at one input. -/
def fnExactAreLoomsWrong : ChangeSpec := { name := "fnExactAreLooms", fn := fun _ => fun
  | [d] => { results := [.lit (.bool false)], args := [d] }
  | _ => none }
def FnExactAreLoomsWrongFalsely : Prop := fnExactAreLoomsRow.holds Try.pinned (OpenSpec.ofChange fnExactAreLoomsWrong)

/-- 'laws.FnExactLoomFor': WHATEVER THE INPUT: true; the input reads as it did. -/
def fnExactLoomForSpec : ChangeSpec := { name := "fnExactLoomFor", fn := fun _ => fun
  | [d1, d2] => { results := [.lit (.bool true)], args := [d1, d2] }
  | _ => none }
def fnExactLoomForRow : OpenClaim := { program := "ytihkopkoiibahaa", sum := "ca1e4277227effdb0d1491f521882e4910c573d6dd575e7667c17f90788f807f", func := "loop.example/g01023/laws.FnExactLoomFor", spec := "fnExactLoomFor", unfollowed := true, recurses := true, apart := false }
def FnExactLoomForSaid : Prop := fnExactLoomForRow.holds Try.pinned (OpenSpec.ofChange fnExactLoomForSpec)

/-- ITS FALSE NEIGHBOUR: 'it returns false'. Refute it at one input. -/
def fnExactLoomForWrong : ChangeSpec := { name := "fnExactLoomFor", fn := fun _ => fun
  | [d1, d2] => { results := [.lit (.bool false)], args := [d1, d2] }
  | _ => none }
def FnExactLoomForWrongFalsely : Prop := fnExactLoomForRow.holds Try.pinned (OpenSpec.ofChange fnExactLoomForWrong)

/-- 'laws.FnExactWarpLoom': WHATEVER THE INPUT: true; the input reads as it did. -/
def fnExactWarpLoomSpec : ChangeSpec := { name := "fnExactWarpLoom", fn := fun _ => fun
  | [d1, d2, d3, d4] => { results := [.lit (.bool true)], args := [d1, d2, d3, d4] }
  | _ => none }
def fnExactWarpLoomRow : OpenClaim := { program := "ytihkopkoiibahaa", sum := "ca1e4277227effdb0d1491f521882e4910c573d6dd575e7667c17f90788f807f", func := "loop.example/g01023/laws.FnExactWarpLoom", spec := "fnExactWarpLoom", unfollowed := true, recurses := true, apart := false }
def FnExactWarpLoomSaid : Prop := fnExactWarpLoomRow.holds Try.pinned (OpenSpec.ofChange fnExactWarpLoomSpec)

/-- ITS FALSE NEIGHBOUR: 'it returns false'. Refute it at one input. -/
def fnExactWarpLoomWrong : ChangeSpec := { name := "fnExactWarpLoom", fn := fun _ => fun
  | [d1, d2, d3, d4] => { results := [.lit (.bool false)], args := [d1, d2, d3, d4] }
  | _ => none }
def FnExactWarpLoomWrongFalsely : Prop := fnExactWarpLoomRow.holds Try.pinned (OpenSpec.ofChange fnExactWarpLoomWrong)

/-- 'laws.FnExactWidestFree': WHATEVER THE INPUT: true; the input reads as it did. -/
def fnExactWidestFreeSpec : ChangeSpec := { name := "fnExactWidestFree", fn := fun _ => fun
  | [d] => { results := [.lit (.bool true)], args := [d] }
  | _ => none }
def fnExactWidestFreeRow : OpenClaim := { program := "ytihkopkoiibahaa", sum := "ca1e4277227effdb0d1491f521882e4910c573d6dd575e7667c17f90788f807f", func := "loop.example/g01023/laws.FnExactWidestFree", spec := "fnExactWidestFree", unfollowed := true, recurses := true, apart := false }
def FnExactWidestFreeSaid : Prop := fnExactWidestFreeRow.holds Try.pinned (OpenSpec.ofChange fnExactWidestFreeSpec)

/-- ITS FALSE NEIGHBOUR: 'it returns false'. Refute it at one input. -/
def fnExactWidestFreeWrong : ChangeSpec := { name := "fnExactWidestFree", fn := fun _ => fun
  | [d] => { results := [.lit (.bool false)], args := [d] }
  | _ => none }
def FnExactWidestFreeWrongFalsely : Prop := fnExactWidestFreeRow.holds Try.pinned (OpenSpec.ofChange fnExactWidestFreeWrong)

/-- 'laws.FnExactCutOff': WHATEVER THE INPUT: true; the input reads as it did. -/
def fnExactCutOffSpec : ChangeSpec := { name := "fnExactCutOff", fn := fun _ => fun
  | [d1, d2] => { results := [.lit (.bool true)], args := [d1, d2] }
  | _ => none }
def fnExactCutOffRow : OpenClaim := { program := "ytihkopkoiibahaa", sum := "ca1e4277227effdb0d1491f521882e4910c573d6dd575e7667c17f90788f807f", func := "loop.example/g01023/laws.FnExactCutOff", spec := "fnExactCutOff", unfollowed := true, recurses := true, apart := false }
def FnExactCutOffSaid : Prop := fnExactCutOffRow.holds Try.pinned (OpenSpec.ofChange fnExactCutOffSpec)

/-- ITS FALSE NEIGHBOUR: 'it returns false'. Refute it at one input. -/
def fnExactCutOffWrong : ChangeSpec := { name := "fnExactCutOff", fn := fun _ => fun
  | [d1, d2] => { results := [.lit (.bool false)], args := [d1, d2] }
  | _ => none }
def FnExactCutOffWrongFalsely : Prop := fnExactCutOffRow.holds Try.pinned (OpenSpec.ofChange fnExactCutOffWrong)

/-- 'laws.FnExactTightenLoom': WHATEVER THE INPUT: true; the input reads as it did. -/
def fnExactTightenLoomSpec : ChangeSpec := { name := "fnExactTightenLoom", fn := fun _ => fun
  | [d1, d2, d3] => { results := [.lit (.bool true)], args := [d1, d2, d3] }
  | _ => none }
def fnExactTightenLoomRow : OpenClaim := { program := "ytihkopkoiibahaa", sum := "ca1e4277227effdb0d1491f521882e4910c573d6dd575e7667c17f90788f807f", func := "loop.example/g01023/laws.FnExactTightenLoom", spec := "fnExactTightenLoom", unfollowed := true, recurses := true, apart := false }
def FnExactTightenLoomSaid : Prop := fnExactTightenLoomRow.holds Try.pinned (OpenSpec.ofChange fnExactTightenLoomSpec)

/-- ITS FALSE NEIGHBOUR: 'it returns false'. Refute it at one input. -/
def fnExactTightenLoomWrong : ChangeSpec := { name := "fnExactTightenLoom", fn := fun _ => fun
  | [d1, d2, d3] => { results := [.lit (.bool false)], args := [d1, d2, d3] }
  | _ => none }
def FnExactTightenLoomWrongFalsely : Prop := fnExactTightenLoomRow.holds Try.pinned (OpenSpec.ofChange fnExactTightenLoomWrong)

/-- 'laws.FnExactWeaveDays': WHATEVER THE INPUT: true; the input reads as it did. -/
def fnExactWeaveDaysSpec : ChangeSpec := { name := "fnExactWeaveDays", fn := fun _ => fun
  | [d1, d2, d3] => { results := [.lit (.bool true)], args := [d1, d2, d3] }
  | _ => none }
def fnExactWeaveDaysRow : OpenClaim := { program := "ytihkopkoiibahaa", sum := "ca1e4277227effdb0d1491f521882e4910c573d6dd575e7667c17f90788f807f", func := "loop.example/g01023/laws.FnExactWeaveDays", spec := "fnExactWeaveDays", unfollowed := true, recurses := true, apart := false }
def FnExactWeaveDaysSaid : Prop := fnExactWeaveDaysRow.holds Try.pinned (OpenSpec.ofChange fnExactWeaveDaysSpec)

/-- ITS FALSE NEIGHBOUR: 'it returns false'. Refute it at one input. -/
def fnExactWeaveDaysWrong : ChangeSpec := { name := "fnExactWeaveDays", fn := fun _ => fun
  | [d1, d2, d3] => { results := [.lit (.bool false)], args := [d1, d2, d3] }
  | _ => none }
def FnExactWeaveDaysWrongFalsely : Prop := fnExactWeaveDaysRow.holds Try.pinned (OpenSpec.ofChange fnExactWeaveDaysWrong)

/-- 'laws.FnExactBeginCarpet': WHATEVER THE INPUT: true; the input reads as it did. -/
def fnExactBeginCarpetSpec : ChangeSpec := { name := "fnExactBeginCarpet", fn := fun _ => fun
  | [d1, d2] => { results := [.lit (.bool true)], args := [d1, d2] }
  | _ => none }
def fnExactBeginCarpetRow : OpenClaim := { program := "ytihkopkoiibahaa", sum := "ca1e4277227effdb0d1491f521882e4910c573d6dd575e7667c17f90788f807f", func := "loop.example/g01023/laws.FnExactBeginCarpet", spec := "fnExactBeginCarpet", unfollowed := true, recurses := true, apart := false }
def FnExactBeginCarpetSaid : Prop := fnExactBeginCarpetRow.holds Try.pinned (OpenSpec.ofChange fnExactBeginCarpetSpec)

/-- ITS FALSE NEIGHBOUR: 'it returns false'. Refute it at one input. -/
def fnExactBeginCarpetWrong : ChangeSpec := { name := "fnExactBeginCarpet", fn := fun _ => fun
  | [d1, d2] => { results := [.lit (.bool false)], args := [d1, d2] }
  | _ => none }
def FnExactBeginCarpetWrongFalsely : Prop := fnExactBeginCarpetRow.holds Try.pinned (OpenSpec.ofChange fnExactBeginCarpetWrong)

/-- 'laws.FnExactDaysLeft': WHATEVER THE INPUT: true; the input reads as it did. -/
def fnExactDaysLeftSpec : ChangeSpec := { name := "fnExactDaysLeft", fn := fun _ => fun
  | [d1, d2] => { results := [.lit (.bool true)], args := [d1, d2] }
  | _ => none }
def fnExactDaysLeftRow : OpenClaim := { program := "ytihkopkoiibahaa", sum := "ca1e4277227effdb0d1491f521882e4910c573d6dd575e7667c17f90788f807f", func := "loop.example/g01023/laws.FnExactDaysLeft", spec := "fnExactDaysLeft", unfollowed := true, recurses := true, apart := false }
def FnExactDaysLeftSaid : Prop := fnExactDaysLeftRow.holds Try.pinned (OpenSpec.ofChange fnExactDaysLeftSpec)

/-- ITS FALSE NEIGHBOUR: 'it returns false'. Refute it at one input. -/
def fnExactDaysLeftWrong : ChangeSpec := { name := "fnExactDaysLeft", fn := fun _ => fun
  | [d1, d2] => { results := [.lit (.bool false)], args := [d1, d2] }
  | _ => none }
def FnExactDaysLeftWrongFalsely : Prop := fnExactDaysLeftRow.holds Try.pinned (OpenSpec.ofChange fnExactDaysLeftWrong)

/- THE SECOND FORM. 'bulk': how many values and letters a reading holds, each counted each time it is reached (what is shared counts as often as it is met; a slice's spare places count too). A statement '..UptoSaid' is the law's where the arguments, and the package variables that the reading takes, are together of bulk at most 1048576: NARROWER than '..Said'. Prove '..Said' where nothing that the law and all that it calls make is longer than what came in: it says more and counts as full. Else prove '..UptoSaid'. A law counts once. -/
mutual
def uptoBulk {H : Type} : DataW H → Nat
  | .lit (.string bytes) => bytes.length + 1
  | .lit _ => 1
  | .nil => 1
  | .ptr d => uptoBulk d + 1
  | .slice elems spare => uptoBulkAll elems + uptoBulkAll spare + 1
  | .agg parts => uptoBulkAll parts + 1
  | .iface _ d => uptoBulk d + 1
  | .map entries => uptoBulkEntries entries + 1
  | .held _ => 1
def uptoBulkAll {H : Type} : List (DataW H) → Nat
  | [] => 0
  | d :: r => uptoBulk d + uptoBulkAll r
def uptoBulkEntries {H : Type} : List (Lit × DataW H) → Nat
  | [] => 0
  | x :: r => uptoBulkEntry x + uptoBulkEntries r
def uptoBulkEntry {H : Type} : Lit × DataW H → Nat
  | (.string bytes, d) => bytes.length + uptoBulk d + 1
  | (_, d) => uptoBulk d + 1
 end
def uptoSmall : (H : Type) → List (DataW H) → Bool := fun _ ds => decide (uptoBulkAll ds ≤ 1048576)
def OpenSpec.upto (s : _root_.Go.ChangeSpec) : _root_.Go.OpenSpec := { _root_.Go.OpenSpec.ofChange s with cond := some uptoSmall }

/-- 'laws.FnExactIsLoom', WHERE WHAT IT READS IS OF BULK AT MOST 1048576: true; the input reads as it did. -/
def fnExactIsLoomUptoRow : OpenClaim := { program := "ytihkopkoiibahaa", sum := "ca1e4277227effdb0d1491f521882e4910c573d6dd575e7667c17f90788f807f", func := "loop.example/g01023/laws.FnExactIsLoom", spec := "fnExactIsLoom", apart := false, narrowed := true }
def FnExactIsLoomUptoSaid : Prop := fnExactIsLoomUptoRow.holds Try.pinned (OpenSpec.upto fnExactIsLoomSpec)

/-- 'laws.FnExactAreLooms', WHERE WHAT IT READS IS OF BULK AT MOST 1048576: true; the input reads as it did. -/
def fnExactAreLoomsUptoRow : OpenClaim := { program := "ytihkopkoiibahaa", sum := "ca1e4277227effdb0d1491f521882e4910c573d6dd575e7667c17f90788f807f", func := "loop.example/g01023/laws.FnExactAreLooms", spec := "fnExactAreLooms", unfollowed := true, recurses := true, apart := false, narrowed := true }
def FnExactAreLoomsUptoSaid : Prop := fnExactAreLoomsUptoRow.holds Try.pinned (OpenSpec.upto fnExactAreLoomsSpec)

/-- 'laws.FnExactLoomFor', WHERE WHAT IT READS IS OF BULK AT MOST 1048576: true; the input reads as it did. -/
def fnExactLoomForUptoRow : OpenClaim := { program := "ytihkopkoiibahaa", sum := "ca1e4277227effdb0d1491f521882e4910c573d6dd575e7667c17f90788f807f", func := "loop.example/g01023/laws.FnExactLoomFor", spec := "fnExactLoomFor", unfollowed := true, recurses := true, apart := false, narrowed := true }
def FnExactLoomForUptoSaid : Prop := fnExactLoomForUptoRow.holds Try.pinned (OpenSpec.upto fnExactLoomForSpec)

/-- 'laws.FnExactWarpLoom', WHERE WHAT IT READS IS OF BULK AT MOST 1048576: true; the input reads as it did. -/
def fnExactWarpLoomUptoRow : OpenClaim := { program := "ytihkopkoiibahaa", sum := "ca1e4277227effdb0d1491f521882e4910c573d6dd575e7667c17f90788f807f", func := "loop.example/g01023/laws.FnExactWarpLoom", spec := "fnExactWarpLoom", unfollowed := true, recurses := true, apart := false, narrowed := true }
def FnExactWarpLoomUptoSaid : Prop := fnExactWarpLoomUptoRow.holds Try.pinned (OpenSpec.upto fnExactWarpLoomSpec)

/-- 'laws.FnExactWidestFree', WHERE WHAT IT READS IS OF BULK AT MOST 1048576: true; the input reads as it did. -/
def fnExactWidestFreeUptoRow : OpenClaim := { program := "ytihkopkoiibahaa", sum := "ca1e4277227effdb0d1491f521882e4910c573d6dd575e7667c17f90788f807f", func := "loop.example/g01023/laws.FnExactWidestFree", spec := "fnExactWidestFree", unfollowed := true, recurses := true, apart := false, narrowed := true }
def FnExactWidestFreeUptoSaid : Prop := fnExactWidestFreeUptoRow.holds Try.pinned (OpenSpec.upto fnExactWidestFreeSpec)

/-- 'laws.FnExactCutOff', WHERE WHAT IT READS IS OF BULK AT MOST 1048576: true; the input reads as it did. -/
def fnExactCutOffUptoRow : OpenClaim := { program := "ytihkopkoiibahaa", sum := "ca1e4277227effdb0d1491f521882e4910c573d6dd575e7667c17f90788f807f", func := "loop.example/g01023/laws.FnExactCutOff", spec := "fnExactCutOff", unfollowed := true, recurses := true, apart := false, narrowed := true }
def FnExactCutOffUptoSaid : Prop := fnExactCutOffUptoRow.holds Try.pinned (OpenSpec.upto fnExactCutOffSpec)

/-- 'laws.FnExactTightenLoom', WHERE WHAT IT READS IS OF BULK AT MOST 1048576: true; the input reads as it did. -/
def fnExactTightenLoomUptoRow : OpenClaim := { program := "ytihkopkoiibahaa", sum := "ca1e4277227effdb0d1491f521882e4910c573d6dd575e7667c17f90788f807f", func := "loop.example/g01023/laws.FnExactTightenLoom", spec := "fnExactTightenLoom", unfollowed := true, recurses := true, apart := false, narrowed := true }
def FnExactTightenLoomUptoSaid : Prop := fnExactTightenLoomUptoRow.holds Try.pinned (OpenSpec.upto fnExactTightenLoomSpec)

/-- 'laws.FnExactWeaveDays', WHERE WHAT IT READS IS OF BULK AT MOST 1048576: true; the input reads as it did. -/
def fnExactWeaveDaysUptoRow : OpenClaim := { program := "ytihkopkoiibahaa", sum := "ca1e4277227effdb0d1491f521882e4910c573d6dd575e7667c17f90788f807f", func := "loop.example/g01023/laws.FnExactWeaveDays", spec := "fnExactWeaveDays", unfollowed := true, recurses := true, apart := false, narrowed := true }
def FnExactWeaveDaysUptoSaid : Prop := fnExactWeaveDaysUptoRow.holds Try.pinned (OpenSpec.upto fnExactWeaveDaysSpec)

/-- 'laws.FnExactBeginCarpet', WHERE WHAT IT READS IS OF BULK AT MOST 1048576: true; the input reads as it did. -/
def fnExactBeginCarpetUptoRow : OpenClaim := { program := "ytihkopkoiibahaa", sum := "ca1e4277227effdb0d1491f521882e4910c573d6dd575e7667c17f90788f807f", func := "loop.example/g01023/laws.FnExactBeginCarpet", spec := "fnExactBeginCarpet", unfollowed := true, recurses := true, apart := false, narrowed := true }
def FnExactBeginCarpetUptoSaid : Prop := fnExactBeginCarpetUptoRow.holds Try.pinned (OpenSpec.upto fnExactBeginCarpetSpec)

/-- 'laws.FnExactDaysLeft', WHERE WHAT IT READS IS OF BULK AT MOST 1048576: true; the input reads as it did. -/
def fnExactDaysLeftUptoRow : OpenClaim := { program := "ytihkopkoiibahaa", sum := "ca1e4277227effdb0d1491f521882e4910c573d6dd575e7667c17f90788f807f", func := "loop.example/g01023/laws.FnExactDaysLeft", spec := "fnExactDaysLeft", unfollowed := true, recurses := true, apart := false, narrowed := true }
def FnExactDaysLeftUptoSaid : Prop := fnExactDaysLeftUptoRow.holds Try.pinned (OpenSpec.upto fnExactDaysLeftSpec)

end Rows
end Go.Proofs.Ytihkopkoiibahaa
