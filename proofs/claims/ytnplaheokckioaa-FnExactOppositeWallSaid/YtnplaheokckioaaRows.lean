/-
  No cell of these rows narrows 'for every input' (looked for: loops, veiled, ifaces, maps, wideKeys, modest, calm, conditions, laid).
  DERIVED. THE GIVEN ROWS OF THIS SEAT. 12 by the template 'for every input the law returns true; each argument reads behind the call as it read before'; 0 by the template 'total and deterministic' (their statements: YtnplaheokckioaaTotals.lean).
  GIVEN WITH THE SEED: the statements are not yours to turn. If you find one false, say at which input.
  Laid BY PROGRAM, IN A SANDBOX (cutbox-rows.mjs): the forced cells as the released guide's own fill.sh prints them over the translation f1b2513689f3b11a… (all of the seat's roots in one cut). By AI agents, Wed Nov 11 2026. No macro, syntax, notation, axiom, sorry.
-/
import Derived.Test.YtnplaheokckioaaChecked
import GoSem.Claim
import GoSem.ClaimJoined
import GoSem.ClaimMapViews
import Derived.JoinedTies
import Derived.KernelRfl
namespace Go.Proofs.Ytnplaheokckioaa
/- THE CELL 'sum', in the pinned program and in every row, IS THE sha256 OF THE DUMP (.gsa) THAT YtnplaheokckioaaProg.lean LOADS. Nothing in Lean hashes anything: it is a label: what it is worth is what the hold of that sum in a sandbox is worth. -/
noncomputable def Try.pinned : Pinned := { name := "ytnplaheokckioaa", sum := "f1b2513689f3b11a15ecd5abfa182fb472bd038253cca5272e36dd3852381b4d", checked := Try.checked }
namespace Rows
def none {H : Type} : Left H := { results := [], args := [] }

/-- 'laws.FnExactIsDay': WHATEVER THE INPUT: true; the input reads as it did. -/
def fnExactIsDaySpec : ChangeSpec := { name := "fnExactIsDay", fn := fun _ => fun
  | [d] => { results := [.lit (.bool true)], args := [d] }
  | _ => none }
def fnExactIsDayRow : OpenClaim := { program := "ytnplaheokckioaa", sum := "f1b2513689f3b11a15ecd5abfa182fb472bd038253cca5272e36dd3852381b4d", func := "loop.example/g00948/laws.FnExactIsDay", spec := "fnExactIsDay", apart := false }
def FnExactIsDaySaid : Prop := fnExactIsDayRow.holds Try.pinned (OpenSpec.ofChange fnExactIsDaySpec)

/-- ITS FALSE NEIGHBOUR: 'it returns false'. Refute it at one input. -/
def fnExactIsDayWrong : ChangeSpec := { name := "fnExactIsDay", fn := fun _ => fun
  | [d] => { results := [.lit (.bool false)], args := [d] }
  | _ => none }
def FnExactIsDayWrongFalsely : Prop := fnExactIsDayRow.holds Try.pinned (OpenSpec.ofChange fnExactIsDayWrong)

/-- 'laws.FnExactIsWall': WHATEVER THE INPUT: true; the input reads as it did. -/
def fnExactIsWallSpec : ChangeSpec := { name := "fnExactIsWall", fn := fun _ => fun
  | [d] => { results := [.lit (.bool true)], args := [d] }
  | _ => none }
def fnExactIsWallRow : OpenClaim := { program := "ytnplaheokckioaa", sum := "f1b2513689f3b11a15ecd5abfa182fb472bd038253cca5272e36dd3852381b4d", func := "loop.example/g00948/laws.FnExactIsWall", spec := "fnExactIsWall", apart := false }
def FnExactIsWallSaid : Prop := fnExactIsWallRow.holds Try.pinned (OpenSpec.ofChange fnExactIsWallSpec)

/-- ITS FALSE NEIGHBOUR: 'it returns false'. Refute it at one input. -/
def fnExactIsWallWrong : ChangeSpec := { name := "fnExactIsWall", fn := fun _ => fun
  | [d] => { results := [.lit (.bool false)], args := [d] }
  | _ => none }
def FnExactIsWallWrongFalsely : Prop := fnExactIsWallRow.holds Try.pinned (OpenSpec.ofChange fnExactIsWallWrong)

/-- 'laws.FnExactHasNumber': WHATEVER THE INPUT: true; the input reads as it did. -/
def fnExactHasNumberSpec : ChangeSpec := { name := "fnExactHasNumber", fn := fun _ => fun
  | [d1, d2] => { results := [.lit (.bool true)], args := [d1, d2] }
  | _ => none }
def fnExactHasNumberRow : OpenClaim := { program := "ytnplaheokckioaa", sum := "f1b2513689f3b11a15ecd5abfa182fb472bd038253cca5272e36dd3852381b4d", func := "loop.example/g00948/laws.FnExactHasNumber", spec := "fnExactHasNumber", apart := false }
def FnExactHasNumberSaid : Prop := fnExactHasNumberRow.holds Try.pinned (OpenSpec.ofChange fnExactHasNumberSpec)

/-- ITS FALSE NEIGHBOUR: 'it returns false'. Refute it at one input. -/
def fnExactHasNumberWrong : ChangeSpec := { name := "fnExactHasNumber", fn := fun _ => fun
  | [d1, d2] => { results := [.lit (.bool false)], args := [d1, d2] }
  | _ => none }
def FnExactHasNumberWrongFalsely : Prop := fnExactHasNumberRow.holds Try.pinned (OpenSpec.ofChange fnExactHasNumberWrong)

/-- 'laws.FnExactHourAngleOf': WHATEVER THE INPUT: true; the input reads as it did. -/
def fnExactHourAngleOfSpec : ChangeSpec := { name := "fnExactHourAngleOf", fn := fun _ => fun
  | [d] => { results := [.lit (.bool true)], args := [d] }
  | _ => none }
def fnExactHourAngleOfRow : OpenClaim := { program := "ytnplaheokckioaa", sum := "f1b2513689f3b11a15ecd5abfa182fb472bd038253cca5272e36dd3852381b4d", func := "loop.example/g00948/laws.FnExactHourAngleOf", spec := "fnExactHourAngleOf", apart := false }
def FnExactHourAngleOfSaid : Prop := fnExactHourAngleOfRow.holds Try.pinned (OpenSpec.ofChange fnExactHourAngleOfSpec)

/-- ITS FALSE NEIGHBOUR: 'it returns false'. Refute it at one input. -/
def fnExactHourAngleOfWrong : ChangeSpec := { name := "fnExactHourAngleOf", fn := fun _ => fun
  | [d] => { results := [.lit (.bool false)], args := [d] }
  | _ => none }
def FnExactHourAngleOfWrongFalsely : Prop := fnExactHourAngleOfRow.holds Try.pinned (OpenSpec.ofChange fnExactHourAngleOfWrong)

/-- 'laws.FnExactMiddleOfDay': WHATEVER THE INPUT: true; the input reads as it did. -/
def fnExactMiddleOfDaySpec : ChangeSpec := { name := "fnExactMiddleOfDay", fn := fun _ => fun
  | [d] => { results := [.lit (.bool true)], args := [d] }
  | _ => none }
def fnExactMiddleOfDayRow : OpenClaim := { program := "ytnplaheokckioaa", sum := "f1b2513689f3b11a15ecd5abfa182fb472bd038253cca5272e36dd3852381b4d", func := "loop.example/g00948/laws.FnExactMiddleOfDay", spec := "fnExactMiddleOfDay", apart := false }
def FnExactMiddleOfDaySaid : Prop := fnExactMiddleOfDayRow.holds Try.pinned (OpenSpec.ofChange fnExactMiddleOfDaySpec)

/-- ITS FALSE NEIGHBOUR: 'it returns false'. Refute it at one input. -/
def fnExactMiddleOfDayWrong : ChangeSpec := { name := "fnExactMiddleOfDay", fn := fun _ => fun
  | [d] => { results := [.lit (.bool false)], args := [d] }
  | _ => none }
def FnExactMiddleOfDayWrongFalsely : Prop := fnExactMiddleOfDayRow.holds Try.pinned (OpenSpec.ofChange fnExactMiddleOfDayWrong)

/-- 'laws.FnExactIsFace': WHATEVER THE INPUT: true; the input reads as it did. -/
def fnExactIsFaceSpec : ChangeSpec := { name := "fnExactIsFace", fn := fun _ => fun
  | [d] => { results := [.lit (.bool true)], args := [d] }
  | _ => none }
def fnExactIsFaceRow : OpenClaim := { program := "ytnplaheokckioaa", sum := "f1b2513689f3b11a15ecd5abfa182fb472bd038253cca5272e36dd3852381b4d", func := "loop.example/g00948/laws.FnExactIsFace", spec := "fnExactIsFace", apart := false }
def FnExactIsFaceSaid : Prop := fnExactIsFaceRow.holds Try.pinned (OpenSpec.ofChange fnExactIsFaceSpec)

/-- ITS FALSE NEIGHBOUR: 'it returns false'. Refute it at one input. -/
def fnExactIsFaceWrong : ChangeSpec := { name := "fnExactIsFace", fn := fun _ => fun
  | [d] => { results := [.lit (.bool false)], args := [d] }
  | _ => none }
def FnExactIsFaceWrongFalsely : Prop := fnExactIsFaceRow.holds Try.pinned (OpenSpec.ofChange fnExactIsFaceWrong)

/-- 'laws.FnExactIsPlace': WHATEVER THE INPUT: true; the input reads as it did. -/
def fnExactIsPlaceSpec : ChangeSpec := { name := "fnExactIsPlace", fn := fun _ => fun
  | [d] => { results := [.lit (.bool true)], args := [d] }
  | _ => none }
def fnExactIsPlaceRow : OpenClaim := { program := "ytnplaheokckioaa", sum := "f1b2513689f3b11a15ecd5abfa182fb472bd038253cca5272e36dd3852381b4d", func := "loop.example/g00948/laws.FnExactIsPlace", spec := "fnExactIsPlace", apart := false }
def FnExactIsPlaceSaid : Prop := fnExactIsPlaceRow.holds Try.pinned (OpenSpec.ofChange fnExactIsPlaceSpec)

/-- ITS FALSE NEIGHBOUR: 'it returns false'. Refute it at one input. -/
def fnExactIsPlaceWrong : ChangeSpec := { name := "fnExactIsPlace", fn := fun _ => fun
  | [d] => { results := [.lit (.bool false)], args := [d] }
  | _ => none }
def FnExactIsPlaceWrongFalsely : Prop := fnExactIsPlaceRow.holds Try.pinned (OpenSpec.ofChange fnExactIsPlaceWrong)

/-- 'laws.FnExactIsDial': WHATEVER THE INPUT: true; the input reads as it did. -/
def fnExactIsDialSpec : ChangeSpec := { name := "fnExactIsDial", fn := fun _ => fun
  | [d] => { results := [.lit (.bool true)], args := [d] }
  | _ => none }
def fnExactIsDialRow : OpenClaim := { program := "ytnplaheokckioaa", sum := "f1b2513689f3b11a15ecd5abfa182fb472bd038253cca5272e36dd3852381b4d", func := "loop.example/g00948/laws.FnExactIsDial", spec := "fnExactIsDial", apart := false }
def FnExactIsDialSaid : Prop := fnExactIsDialRow.holds Try.pinned (OpenSpec.ofChange fnExactIsDialSpec)

/-- ITS FALSE NEIGHBOUR: 'it returns false'. Refute it at one input. -/
def fnExactIsDialWrong : ChangeSpec := { name := "fnExactIsDial", fn := fun _ => fun
  | [d] => { results := [.lit (.bool false)], args := [d] }
  | _ => none }
def FnExactIsDialWrongFalsely : Prop := fnExactIsDialRow.holds Try.pinned (OpenSpec.ofChange fnExactIsDialWrong)

/-- 'laws.FnExactTemporalLength': WHATEVER THE INPUT: true; the input reads as it did. -/
def fnExactTemporalLengthSpec : ChangeSpec := { name := "fnExactTemporalLength", fn := fun _ => fun
  | [d1, d2] => { results := [.lit (.bool true)], args := [d1, d2] }
  | _ => none }
def fnExactTemporalLengthRow : OpenClaim := { program := "ytnplaheokckioaa", sum := "f1b2513689f3b11a15ecd5abfa182fb472bd038253cca5272e36dd3852381b4d", func := "loop.example/g00948/laws.FnExactTemporalLength", spec := "fnExactTemporalLength", apart := false }
def FnExactTemporalLengthSaid : Prop := fnExactTemporalLengthRow.holds Try.pinned (OpenSpec.ofChange fnExactTemporalLengthSpec)

/-- ITS FALSE NEIGHBOUR: 'it returns false'. Refute it at one input. -/
def fnExactTemporalLengthWrong : ChangeSpec := { name := "fnExactTemporalLength", fn := fun _ => fun
  | [d1, d2] => { results := [.lit (.bool false)], args := [d1, d2] }
  | _ => none }
def FnExactTemporalLengthWrongFalsely : Prop := fnExactTemporalLengthRow.holds Try.pinned (OpenSpec.ofChange fnExactTemporalLengthWrong)

/-- 'laws.FnExactIsZone': WHATEVER THE INPUT: true; the input reads as it did. -/
def fnExactIsZoneSpec : ChangeSpec := { name := "fnExactIsZone", fn := fun _ => fun
  | [d] => { results := [.lit (.bool true)], args := [d] }
  | _ => none }
def fnExactIsZoneRow : OpenClaim := { program := "ytnplaheokckioaa", sum := "f1b2513689f3b11a15ecd5abfa182fb472bd038253cca5272e36dd3852381b4d", func := "loop.example/g00948/laws.FnExactIsZone", spec := "fnExactIsZone", apart := false }
def FnExactIsZoneSaid : Prop := fnExactIsZoneRow.holds Try.pinned (OpenSpec.ofChange fnExactIsZoneSpec)

/-- ITS FALSE NEIGHBOUR: 'it returns false'. Refute it at one input. -/
def fnExactIsZoneWrong : ChangeSpec := { name := "fnExactIsZone", fn := fun _ => fun
  | [d] => { results := [.lit (.bool false)], args := [d] }
  | _ => none }
def FnExactIsZoneWrongFalsely : Prop := fnExactIsZoneRow.holds Try.pinned (OpenSpec.ofChange fnExactIsZoneWrong)

/-- 'laws.FnExactOppositeWall': WHATEVER THE INPUT: true; the input reads as it did. -/
def fnExactOppositeWallSpec : ChangeSpec := { name := "fnExactOppositeWall", fn := fun _ => fun
  | [d] => { results := [.lit (.bool true)], args := [d] }
  | _ => none }
def fnExactOppositeWallRow : OpenClaim := { program := "ytnplaheokckioaa", sum := "f1b2513689f3b11a15ecd5abfa182fb472bd038253cca5272e36dd3852381b4d", func := "loop.example/g00948/laws.FnExactOppositeWall", spec := "fnExactOppositeWall", apart := false }
def FnExactOppositeWallSaid : Prop := fnExactOppositeWallRow.holds Try.pinned (OpenSpec.ofChange fnExactOppositeWallSpec)

/-- ITS FALSE NEIGHBOUR: 'it returns false'. Refute it at one input. -/
def fnExactOppositeWallWrong : ChangeSpec := { name := "fnExactOppositeWall", fn := fun _ => fun
  | [d] => { results := [.lit (.bool false)], args := [d] }
  | _ => none }
def FnExactOppositeWallWrongFalsely : Prop := fnExactOppositeWallRow.holds Try.pinned (OpenSpec.ofChange fnExactOppositeWallWrong)

/-- 'laws.FnExactMayBeAt': WHATEVER THE INPUT: true; the input reads as it did. -/
def fnExactMayBeAtSpec : ChangeSpec := { name := "fnExactMayBeAt", fn := fun _ => fun
  | [d1, d2, d3] => { results := [.lit (.bool true)], args := [d1, d2, d3] }
  | _ => none }
def fnExactMayBeAtRow : OpenClaim := { program := "ytnplaheokckioaa", sum := "f1b2513689f3b11a15ecd5abfa182fb472bd038253cca5272e36dd3852381b4d", func := "loop.example/g00948/laws.FnExactMayBeAt", spec := "fnExactMayBeAt", apart := false }
def FnExactMayBeAtSaid : Prop := fnExactMayBeAtRow.holds Try.pinned (OpenSpec.ofChange fnExactMayBeAtSpec)

/-- ITS FALSE NEIGHBOUR: 'it returns false'. Refute it at one input. -/
def fnExactMayBeAtWrong : ChangeSpec := { name := "fnExactMayBeAt", fn := fun _ => fun
  | [d1, d2, d3] => { results := [.lit (.bool false)], args := [d1, d2, d3] }
  | _ => none }
def FnExactMayBeAtWrongFalsely : Prop := fnExactMayBeAtRow.holds Try.pinned (OpenSpec.ofChange fnExactMayBeAtWrong)

/- THE SECOND FORM. 'bulk': how many values and letters a reading holds, each counted each time it is reached (what is shared counts as often as it is met; a slice's spare places count too). A statement '..UptoSaid' is the law's where the arguments, and the package variables that the reading takes, are together of bulk at most 1048576: NARROWER than '..Said'. Prove '..Said' where nothing that the law and all that it calls make is longer than what came in: it says more and counts as full. Else prove '..UptoSaid'. A law counts once. -/
mutual
def uptoBulk {H : Type} : DataW H → Nat
  | .lit (.string bytes) => bytes.length + 1
  | .lit _ => 1
  | .nil => 1
  | .ptr d => uptoBulk d + 1
  | .slice elems spare => uptoBulkAll elems + uptoBulkAll spare + 1
  | .agg parts => uptoBulkAll parts + 1
  | .iface _ d => uptoBulk d + 1
  | .map entries => uptoBulkEntries entries + 1
  | .held _ => 1
def uptoBulkAll {H : Type} : List (DataW H) → Nat
  | [] => 0
  | d :: r => uptoBulk d + uptoBulkAll r
def uptoBulkEntries {H : Type} : List (Lit × DataW H) → Nat
  | [] => 0
  | x :: r => uptoBulkEntry x + uptoBulkEntries r
def uptoBulkEntry {H : Type} : Lit × DataW H → Nat
  | (.string bytes, d) => bytes.length + uptoBulk d + 1
  | (_, d) => uptoBulk d + 1
 end
def uptoSmall : (H : Type) → List (DataW H) → Bool := fun _ ds => decide (uptoBulkAll ds ≤ 1048576)
def OpenSpec.upto (s : _root_.Go.ChangeSpec) : _root_.Go.OpenSpec := { _root_.Go.OpenSpec.ofChange s with cond := some uptoSmall }

/-- 'laws.FnExactIsDay', WHERE WHAT IT READS IS OF BULK AT MOST 1048576: true; the input reads as it did. -/
def fnExactIsDayUptoRow : OpenClaim := { program := "ytnplaheokckioaa", sum := "f1b2513689f3b11a15ecd5abfa182fb472bd038253cca5272e36dd3852381b4d", func := "loop.example/g00948/laws.FnExactIsDay", spec := "fnExactIsDay", apart := false, narrowed := true }
def FnExactIsDayUptoSaid : Prop := fnExactIsDayUptoRow.holds Try.pinned (OpenSpec.upto fnExactIsDaySpec)

/-- 'laws.FnExactIsWall', WHERE WHAT IT READS IS OF BULK AT MOST 1048576: true; the input reads as it did. -/
def fnExactIsWallUptoRow : OpenClaim := { program := "ytnplaheokckioaa", sum := "f1b2513689f3b11a15ecd5abfa182fb472bd038253cca5272e36dd3852381b4d", func := "loop.example/g00948/laws.FnExactIsWall", spec := "fnExactIsWall", apart := false, narrowed := true }
def FnExactIsWallUptoSaid : Prop := fnExactIsWallUptoRow.holds Try.pinned (OpenSpec.upto fnExactIsWallSpec)

/-- 'laws.FnExactHasNumber', WHERE WHAT IT READS IS OF BULK AT MOST 1048576: true; the input reads as it did. -/
def fnExactHasNumberUptoRow : OpenClaim := { program := "ytnplaheokckioaa", sum := "f1b2513689f3b11a15ecd5abfa182fb472bd038253cca5272e36dd3852381b4d", func := "loop.example/g00948/laws.FnExactHasNumber", spec := "fnExactHasNumber", apart := false, narrowed := true }
def FnExactHasNumberUptoSaid : Prop := fnExactHasNumberUptoRow.holds Try.pinned (OpenSpec.upto fnExactHasNumberSpec)

/-- 'laws.FnExactHourAngleOf', WHERE WHAT IT READS IS OF BULK AT MOST 1048576: true; the input reads as it did. -/
def fnExactHourAngleOfUptoRow : OpenClaim := { program := "ytnplaheokckioaa", sum := "f1b2513689f3b11a15ecd5abfa182fb472bd038253cca5272e36dd3852381b4d", func := "loop.example/g00948/laws.FnExactHourAngleOf", spec := "fnExactHourAngleOf", apart := false, narrowed := true }
def FnExactHourAngleOfUptoSaid : Prop := fnExactHourAngleOfUptoRow.holds Try.pinned (OpenSpec.upto fnExactHourAngleOfSpec)

/-- 'laws.FnExactMiddleOfDay', WHERE WHAT IT READS IS OF BULK AT MOST 1048576: true; the input reads as it did. -/
def fnExactMiddleOfDayUptoRow : OpenClaim := { program := "ytnplaheokckioaa", sum := "f1b2513689f3b11a15ecd5abfa182fb472bd038253cca5272e36dd3852381b4d", func := "loop.example/g00948/laws.FnExactMiddleOfDay", spec := "fnExactMiddleOfDay", apart := false, narrowed := true }
def FnExactMiddleOfDayUptoSaid : Prop := fnExactMiddleOfDayUptoRow.holds Try.pinned (OpenSpec.upto fnExactMiddleOfDaySpec)

/-- 'laws.FnExactIsFace', WHERE WHAT IT READS IS OF BULK AT MOST 1048576: true; the input reads as it did. -/
def fnExactIsFaceUptoRow : OpenClaim := { program := "ytnplaheokckioaa", sum := "f1b2513689f3b11a15ecd5abfa182fb472bd038253cca5272e36dd3852381b4d", func := "loop.example/g00948/laws.FnExactIsFace", spec := "fnExactIsFace", apart := false, narrowed := true }
def FnExactIsFaceUptoSaid : Prop := fnExactIsFaceUptoRow.holds Try.pinned (OpenSpec.upto fnExactIsFaceSpec)

/-- 'laws.FnExactIsPlace', WHERE WHAT IT READS IS OF BULK AT MOST 1048576: true; the input reads as it did. -/
def fnExactIsPlaceUptoRow : OpenClaim := { program := "ytnplaheokckioaa", sum := "f1b2513689f3b11a15ecd5abfa182fb472bd038253cca5272e36dd3852381b4d", func := "loop.example/g00948/laws.FnExactIsPlace", spec := "fnExactIsPlace", apart := false, narrowed := true }
def FnExactIsPlaceUptoSaid : Prop := fnExactIsPlaceUptoRow.holds Try.pinned (OpenSpec.upto fnExactIsPlaceSpec)

/-- 'laws.FnExactIsDial', WHERE WHAT IT READS IS OF BULK AT MOST 1048576: true; the input reads as it did. -/
def fnExactIsDialUptoRow : OpenClaim := { program := "ytnplaheokckioaa", sum := "f1b2513689f3b11a15ecd5abfa182fb472bd038253cca5272e36dd3852381b4d", func := "loop.example/g00948/laws.FnExactIsDial", spec := "fnExactIsDial", apart := false, narrowed := true }
def FnExactIsDialUptoSaid : Prop := fnExactIsDialUptoRow.holds Try.pinned (OpenSpec.upto fnExactIsDialSpec)

/-- 'laws.FnExactTemporalLength', WHERE WHAT IT READS IS OF BULK AT MOST 1048576: true; the input reads as it did. -/
def fnExactTemporalLengthUptoRow : OpenClaim := { program := "ytnplaheokckioaa", sum := "f1b2513689f3b11a15ecd5abfa182fb472bd038253cca5272e36dd3852381b4d", func := "loop.example/g00948/laws.FnExactTemporalLength", spec := "fnExactTemporalLength", apart := false, narrowed := true }
def FnExactTemporalLengthUptoSaid : Prop := fnExactTemporalLengthUptoRow.holds Try.pinned (OpenSpec.upto fnExactTemporalLengthSpec)

/-- 'laws.FnExactIsZone', WHERE WHAT IT READS IS OF BULK AT MOST 1048576: true; the input reads as it did. -/
def fnExactIsZoneUptoRow : OpenClaim := { program := "ytnplaheokckioaa", sum := "f1b2513689f3b11a15ecd5abfa182fb472bd038253cca5272e36dd3852381b4d", func := "loop.example/g00948/laws.FnExactIsZone", spec := "fnExactIsZone", apart := false, narrowed := true }
def FnExactIsZoneUptoSaid : Prop := fnExactIsZoneUptoRow.holds Try.pinned (OpenSpec.upto fnExactIsZoneSpec)

/-- 'laws.FnExactOppositeWall', WHERE WHAT IT READS IS OF BULK AT MOST 1048576: true; the input reads as it did. -/
def fnExactOppositeWallUptoRow : OpenClaim := { program := "ytnplaheokckioaa", sum := "f1b2513689f3b11a15ecd5abfa182fb472bd038253cca5272e36dd3852381b4d", func := "loop.example/g00948/laws.FnExactOppositeWall", spec := "fnExactOppositeWall", apart := false, narrowed := true }
def FnExactOppositeWallUptoSaid : Prop := fnExactOppositeWallUptoRow.holds Try.pinned (OpenSpec.upto fnExactOppositeWallSpec)

/-- 'laws.FnExactMayBeAt', WHERE WHAT IT READS IS OF BULK AT MOST 1048576: true; the input reads as it did. -/
def fnExactMayBeAtUptoRow : OpenClaim := { program := "ytnplaheokckioaa", sum := "f1b2513689f3b11a15ecd5abfa182fb472bd038253cca5272e36dd3852381b4d", func := "loop.example/g00948/laws.FnExactMayBeAt", spec := "fnExactMayBeAt", apart := false, narrowed := true }
def FnExactMayBeAtUptoSaid : Prop := fnExactMayBeAtUptoRow.holds Try.pinned (OpenSpec.upto fnExactMayBeAtSpec)

end Rows
end Go.Proofs.Ytnplaheokckioaa
