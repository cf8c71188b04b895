/-
  No cell of these rows narrows 'for every input' (looked for: loops, veiled, ifaces, maps, wideKeys, modest, calm, conditions, laid).
  DERIVED. THE GIVEN ROWS OF THIS SEAT. 12 by the template 'for every input the law returns true; each argument reads behind the call as it read before'; 0 by the template 'total and deterministic' (their statements: YthooejkmccdfjaaTotals.lean).
  GIVEN WITH THE SEED: the statements are not yours to turn. If you find one false, say at which input.
  Laid BY PROGRAM, IN A SANDBOX (cutbox-rows.mjs): the forced cells as the released guide's own fill.sh prints them over the translation 109fb2a41bea6e1c… (all of the seat's roots in one cut). By AI agents, Wed Nov 11 2026. No macro, syntax, notation, axiom, sorry.
-/
import Derived.Test.YthooejkmccdfjaaChecked
import GoSem.Claim
import GoSem.ClaimJoined
import GoSem.ClaimMapViews
import Derived.JoinedTies
import Derived.KernelRfl
namespace Go.Proofs.Ythooejkmccdfjaa
/- THE CELL 'sum', in the pinned program and in every row, IS THE sha256 OF THE DUMP (.gsa) THAT YthooejkmccdfjaaProg.lean LOADS. Nothing in Lean hashes anything: it is a label: what it is worth is what the hold of that sum in a sandbox is worth. -/
noncomputable def Try.pinned : Pinned := { name := "ythooejkmccdfjaa", sum := "109fb2a41bea6e1c1994d101d22239f5530775bf897c6d4a158f71efb92be30d", checked := Try.checked }
namespace Rows
def none {H : Type} : Left H := { results := [], args := [] }

/-- 'laws.FnExactIsLit': WHATEVER THE INPUT: true; the input reads as it did. -/
def fnExactIsLitSpec : ChangeSpec := { name := "fnExactIsLit", fn := fun _ => fun
  | [d1, d2] => { results := [.lit (.bool true)], args := [d1, d2] }
  | _ => none }
def fnExactIsLitRow : OpenClaim := { program := "ythooejkmccdfjaa", sum := "109fb2a41bea6e1c1994d101d22239f5530775bf897c6d4a158f71efb92be30d", func := "loop.example/g00948/laws.FnExactIsLit", spec := "fnExactIsLit", apart := false }
def FnExactIsLitSaid : Prop := fnExactIsLitRow.holds Try.pinned (OpenSpec.ofChange fnExactIsLitSpec)

/-- ITS FALSE NEIGHBOUR: 'it returns false'. Refute it at one input. -/
def fnExactIsLitWrong : ChangeSpec := { name := "fnExactIsLit", fn := fun _ => fun
  | [d1, d2] => { results := [.lit (.bool false)], args := [d1, d2] }
  | _ => none }
def FnExactIsLitWrongFalsely : Prop := fnExactIsLitRow.holds Try.pinned (OpenSpec.ofChange fnExactIsLitWrong)

/-- 'laws.FnExactPoleParts': WHATEVER THE INPUT: true; the input reads as it did. -/
def fnExactPolePartsSpec : ChangeSpec := { name := "fnExactPoleParts", fn := fun _ => fun
  | [d1, d2] => { results := [.lit (.bool true)], args := [d1, d2] }
  | _ => none }
def fnExactPolePartsRow : OpenClaim := { program := "ythooejkmccdfjaa", sum := "109fb2a41bea6e1c1994d101d22239f5530775bf897c6d4a158f71efb92be30d", func := "loop.example/g00948/laws.FnExactPoleParts", spec := "fnExactPoleParts", apart := false }
def FnExactPolePartsSaid : Prop := fnExactPolePartsRow.holds Try.pinned (OpenSpec.ofChange fnExactPolePartsSpec)

/-- ITS FALSE NEIGHBOUR: 'it returns false'. Refute it at one input. -/
def fnExactPolePartsWrong : ChangeSpec := { name := "fnExactPoleParts", fn := fun _ => fun
  | [d1, d2] => { results := [.lit (.bool false)], args := [d1, d2] }
  | _ => none }
def FnExactPolePartsWrongFalsely : Prop := fnExactPolePartsRow.holds Try.pinned (OpenSpec.ofChange fnExactPolePartsWrong)

/-- 'laws.FnExactAxesOf': WHATEVER THE INPUT: true; the input reads as it did. -/
def fnExactAxesOfSpec : ChangeSpec := { name := "fnExactAxesOf", fn := fun _ => fun
  | [d] => { results := [.lit (.bool true)], args := [d] }
  | _ => none }
def fnExactAxesOfRow : OpenClaim := { program := "ythooejkmccdfjaa", sum := "109fb2a41bea6e1c1994d101d22239f5530775bf897c6d4a158f71efb92be30d", func := "loop.example/g00948/laws.FnExactAxesOf", spec := "fnExactAxesOf", apart := false }
def FnExactAxesOfSaid : Prop := fnExactAxesOfRow.holds Try.pinned (OpenSpec.ofChange fnExactAxesOfSpec)

/-- ITS FALSE NEIGHBOUR: 'it returns false'. Refute it at one input. -/
def fnExactAxesOfWrong : ChangeSpec := { name := "fnExactAxesOf", fn := fun _ => fun
  | [d] => { results := [.lit (.bool false)], args := [d] }
  | _ => none }
def FnExactAxesOfWrongFalsely : Prop := fnExactAxesOfRow.holds Try.pinned (OpenSpec.ofChange fnExactAxesOfWrong)

/-- 'laws.FnExactSunDirection': WHATEVER THE INPUT: true; the input reads as it did. -/
def fnExactSunDirectionSpec : ChangeSpec := { name := "fnExactSunDirection", fn := fun _ => fun
  | [d1, d2, d3] => { results := [.lit (.bool true)], args := [d1, d2, d3] }
  | _ => none }
def fnExactSunDirectionRow : OpenClaim := { program := "ythooejkmccdfjaa", sum := "109fb2a41bea6e1c1994d101d22239f5530775bf897c6d4a158f71efb92be30d", func := "loop.example/g00948/laws.FnExactSunDirection", spec := "fnExactSunDirection", unfollowed := true, recurses := true, apart := false }
def FnExactSunDirectionSaid : Prop := fnExactSunDirectionRow.holds Try.pinned (OpenSpec.ofChange fnExactSunDirectionSpec)

/-- ITS FALSE NEIGHBOUR: 'it returns false'. Refute it at one input. -/
def fnExactSunDirectionWrong : ChangeSpec := { name := "fnExactSunDirection", fn := fun _ => fun
  | [d1, d2, d3] => { results := [.lit (.bool false)], args := [d1, d2, d3] }
  | _ => none }
def FnExactSunDirectionWrongFalsely : Prop := fnExactSunDirectionRow.holds Try.pinned (OpenSpec.ofChange fnExactSunDirectionWrong)

/-- 'laws.FnExactPartsOf': WHATEVER THE INPUT: true; the input reads as it did. -/
def fnExactPartsOfSpec : ChangeSpec := { name := "fnExactPartsOf", fn := fun _ => fun
  | [d1, d2] => { results := [.lit (.bool true)], args := [d1, d2] }
  | _ => none }
def fnExactPartsOfRow : OpenClaim := { program := "ythooejkmccdfjaa", sum := "109fb2a41bea6e1c1994d101d22239f5530775bf897c6d4a158f71efb92be30d", func := "loop.example/g00948/laws.FnExactPartsOf", spec := "fnExactPartsOf", apart := false }
def FnExactPartsOfSaid : Prop := fnExactPartsOfRow.holds Try.pinned (OpenSpec.ofChange fnExactPartsOfSpec)

/-- ITS FALSE NEIGHBOUR: 'it returns false'. Refute it at one input. -/
def fnExactPartsOfWrong : ChangeSpec := { name := "fnExactPartsOf", fn := fun _ => fun
  | [d1, d2] => { results := [.lit (.bool false)], args := [d1, d2] }
  | _ => none }
def FnExactPartsOfWrongFalsely : Prop := fnExactPartsOfRow.holds Try.pinned (OpenSpec.ofChange fnExactPartsOfWrong)

/-- 'laws.FnExactHourNumber': WHATEVER THE INPUT: true; the input reads as it did. -/
def fnExactHourNumberSpec : ChangeSpec := { name := "fnExactHourNumber", fn := fun _ => fun
  | [d1, d2, d3] => { results := [.lit (.bool true)], args := [d1, d2, d3] }
  | _ => none }
def fnExactHourNumberRow : OpenClaim := { program := "ythooejkmccdfjaa", sum := "109fb2a41bea6e1c1994d101d22239f5530775bf897c6d4a158f71efb92be30d", func := "loop.example/g00948/laws.FnExactHourNumber", spec := "fnExactHourNumber", apart := false }
def FnExactHourNumberSaid : Prop := fnExactHourNumberRow.holds Try.pinned (OpenSpec.ofChange fnExactHourNumberSpec)

/-- ITS FALSE NEIGHBOUR: 'it returns false'. Refute it at one input. -/
def fnExactHourNumberWrong : ChangeSpec := { name := "fnExactHourNumber", fn := fun _ => fun
  | [d1, d2, d3] => { results := [.lit (.bool false)], args := [d1, d2, d3] }
  | _ => none }
def FnExactHourNumberWrongFalsely : Prop := fnExactHourNumberRow.holds Try.pinned (OpenSpec.ofChange fnExactHourNumberWrong)

/-- 'laws.FnExactMinutesWith': WHATEVER THE INPUT: true; the input reads as it did. -/
def fnExactMinutesWithSpec : ChangeSpec := { name := "fnExactMinutesWith", fn := fun _ => fun
  | [d1, d2, d3] => { results := [.lit (.bool true)], args := [d1, d2, d3] }
  | _ => none }
def fnExactMinutesWithRow : OpenClaim := { program := "ythooejkmccdfjaa", sum := "109fb2a41bea6e1c1994d101d22239f5530775bf897c6d4a158f71efb92be30d", func := "loop.example/g00948/laws.FnExactMinutesWith", spec := "fnExactMinutesWith", apart := false }
def FnExactMinutesWithSaid : Prop := fnExactMinutesWithRow.holds Try.pinned (OpenSpec.ofChange fnExactMinutesWithSpec)

/-- ITS FALSE NEIGHBOUR: 'it returns false'. Refute it at one input. -/
def fnExactMinutesWithWrong : ChangeSpec := { name := "fnExactMinutesWith", fn := fun _ => fun
  | [d1, d2, d3] => { results := [.lit (.bool false)], args := [d1, d2, d3] }
  | _ => none }
def FnExactMinutesWithWrongFalsely : Prop := fnExactMinutesWithRow.holds Try.pinned (OpenSpec.ofChange fnExactMinutesWithWrong)

/-- 'laws.FnExactConvertHours': WHATEVER THE INPUT: true; the input reads as it did. -/
def fnExactConvertHoursSpec : ChangeSpec := { name := "fnExactConvertHours", fn := fun _ => fun
  | [d1, d2, d3, d4] => { results := [.lit (.bool true)], args := [d1, d2, d3, d4] }
  | _ => none }
def fnExactConvertHoursRow : OpenClaim := { program := "ythooejkmccdfjaa", sum := "109fb2a41bea6e1c1994d101d22239f5530775bf897c6d4a158f71efb92be30d", func := "loop.example/g00948/laws.FnExactConvertHours", spec := "fnExactConvertHours", apart := false }
def FnExactConvertHoursSaid : Prop := fnExactConvertHoursRow.holds Try.pinned (OpenSpec.ofChange fnExactConvertHoursSpec)

/-- ITS FALSE NEIGHBOUR: 'it returns false'. Refute it at one input. -/
def fnExactConvertHoursWrong : ChangeSpec := { name := "fnExactConvertHours", fn := fun _ => fun
  | [d1, d2, d3, d4] => { results := [.lit (.bool false)], args := [d1, d2, d3, d4] }
  | _ => none }
def FnExactConvertHoursWrongFalsely : Prop := fnExactConvertHoursRow.holds Try.pinned (OpenSpec.ofChange fnExactConvertHoursWrong)

/-- 'laws.FnHours': WHATEVER THE INPUT: true; the input reads as it did. -/
def fnHoursSpec : ChangeSpec := { name := "fnHours", fn := fun _ => fun
  | [d] => { results := [.lit (.bool true)], args := [d] }
  | _ => none }
def fnHoursRow : OpenClaim := { program := "ythooejkmccdfjaa", sum := "109fb2a41bea6e1c1994d101d22239f5530775bf897c6d4a158f71efb92be30d", func := "loop.example/g00948/laws.FnHours", spec := "fnHours", apart := false }
def FnHoursSaid : Prop := fnHoursRow.holds Try.pinned (OpenSpec.ofChange fnHoursSpec)

/-- ITS FALSE NEIGHBOUR: 'it returns false'. Refute it at one input. -/
def fnHoursWrong : ChangeSpec := { name := "fnHours", fn := fun _ => fun
  | [d] => { results := [.lit (.bool false)], args := [d] }
  | _ => none }
def FnHoursWrongFalsely : Prop := fnHoursRow.holds Try.pinned (OpenSpec.ofChange fnHoursWrong)

/-- 'laws.FnConverted': WHATEVER THE INPUT: true; the input reads as it did. -/
def fnConvertedSpec : ChangeSpec := { name := "fnConverted", fn := fun _ => fun
  | [d] => { results := [.lit (.bool true)], args := [d] }
  | _ => none }
def fnConvertedRow : OpenClaim := { program := "ythooejkmccdfjaa", sum := "109fb2a41bea6e1c1994d101d22239f5530775bf897c6d4a158f71efb92be30d", func := "loop.example/g00948/laws.FnConverted", spec := "fnConverted", apart := false }
def FnConvertedSaid : Prop := fnConvertedRow.holds Try.pinned (OpenSpec.ofChange fnConvertedSpec)

/-- ITS FALSE NEIGHBOUR: 'it returns false'. Refute it at one input. -/
def fnConvertedWrong : ChangeSpec := { name := "fnConverted", fn := fun _ => fun
  | [d] => { results := [.lit (.bool false)], args := [d] }
  | _ => none }
def FnConvertedWrongFalsely : Prop := fnConvertedRow.holds Try.pinned (OpenSpec.ofChange fnConvertedWrong)

/-- 'laws.FnExactNearestCurve': WHATEVER THE INPUT: true; the input reads as it did. -/
def fnExactNearestCurveSpec : ChangeSpec := { name := "fnExactNearestCurve", fn := fun _ => fun
  | [d1, d2] => { results := [.lit (.bool true)], args := [d1, d2] }
  | _ => none }
def fnExactNearestCurveRow : OpenClaim := { program := "ythooejkmccdfjaa", sum := "109fb2a41bea6e1c1994d101d22239f5530775bf897c6d4a158f71efb92be30d", func := "loop.example/g00948/laws.FnExactNearestCurve", spec := "fnExactNearestCurve", unfollowed := true, recurses := true, apart := false }
def FnExactNearestCurveSaid : Prop := fnExactNearestCurveRow.holds Try.pinned (OpenSpec.ofChange fnExactNearestCurveSpec)

/-- ITS FALSE NEIGHBOUR: 'it returns false'. Refute it at one input. -/
def fnExactNearestCurveWrong : ChangeSpec := { name := "fnExactNearestCurve", fn := fun _ => fun
  | [d1, d2] => { results := [.lit (.bool false)], args := [d1, d2] }
  | _ => none }
def FnExactNearestCurveWrongFalsely : Prop := fnExactNearestCurveRow.holds Try.pinned (OpenSpec.ofChange fnExactNearestCurveWrong)

/-- 'laws.FnExactCurveBounds': WHATEVER THE INPUT: true; the input reads as it did. -/
def fnExactCurveBoundsSpec : ChangeSpec := { name := "fnExactCurveBounds", fn := fun _ => fun
  | [d] => { results := [.lit (.bool true)], args := [d] }
  | _ => none }
def fnExactCurveBoundsRow : OpenClaim := { program := "ythooejkmccdfjaa", sum := "109fb2a41bea6e1c1994d101d22239f5530775bf897c6d4a158f71efb92be30d", func := "loop.example/g00948/laws.FnExactCurveBounds", spec := "fnExactCurveBounds", unfollowed := true, recurses := true, apart := false }
def FnExactCurveBoundsSaid : Prop := fnExactCurveBoundsRow.holds Try.pinned (OpenSpec.ofChange fnExactCurveBoundsSpec)

/-- ITS FALSE NEIGHBOUR: 'it returns false'. Refute it at one input. -/
def fnExactCurveBoundsWrong : ChangeSpec := { name := "fnExactCurveBounds", fn := fun _ => fun
  | [d] => { results := [.lit (.bool false)], args := [d] }
  | _ => none }
def FnExactCurveBoundsWrongFalsely : Prop := fnExactCurveBoundsRow.holds Try.pinned (OpenSpec.ofChange fnExactCurveBoundsWrong)

/- THE SECOND FORM. 'bulk': how many values and letters a reading holds, each counted each time it is reached (what is shared counts as often as it is met; a slice's spare places count too). A statement '..UptoSaid' is the law's where the arguments, and the package variables that the reading takes, are together of bulk at most 1048576: NARROWER than '..Said'. Prove '..Said' where nothing that the law and all that it calls make is longer than what came in: it says more and counts as full. Else prove '..UptoSaid'. A law counts once. -/
mutual
def uptoBulk {H : Type} : DataW H → Nat
  | .lit (.string bytes) => bytes.length + 1
  | .lit _ => 1
  | .nil => 1
  | .ptr d => uptoBulk d + 1
  | .slice elems spare => uptoBulkAll elems + uptoBulkAll spare + 1
  | .agg parts => uptoBulkAll parts + 1
  | .iface _ d => uptoBulk d + 1
  | .map entries => uptoBulkEntries entries + 1
  | .held _ => 1
def uptoBulkAll {H : Type} : List (DataW H) → Nat
  | [] => 0
  | d :: r => uptoBulk d + uptoBulkAll r
def uptoBulkEntries {H : Type} : List (Lit × DataW H) → Nat
  | [] => 0
  | x :: r => uptoBulkEntry x + uptoBulkEntries r
def uptoBulkEntry {H : Type} : Lit × DataW H → Nat
  | (.string bytes, d) => bytes.length + uptoBulk d + 1
  | (_, d) => uptoBulk d + 1
 end
def uptoSmall : (H : Type) → List (DataW H) → Bool := fun _ ds => decide (uptoBulkAll ds ≤ 1048576)
def OpenSpec.upto (s : _root_.Go.ChangeSpec) : _root_.Go.OpenSpec := { _root_.Go.OpenSpec.ofChange s with cond := some uptoSmall }

/-- 'laws.FnExactIsLit', WHERE WHAT IT READS IS OF BULK AT MOST 1048576: true; the input reads as it did. -/
def fnExactIsLitUptoRow : OpenClaim := { program := "ythooejkmccdfjaa", sum := "109fb2a41bea6e1c1994d101d22239f5530775bf897c6d4a158f71efb92be30d", func := "loop.example/g00948/laws.FnExactIsLit", spec := "fnExactIsLit", apart := false, narrowed := true }
def FnExactIsLitUptoSaid : Prop := fnExactIsLitUptoRow.holds Try.pinned (OpenSpec.upto fnExactIsLitSpec)

/-- 'laws.FnExactPoleParts', WHERE WHAT IT READS IS OF BULK AT MOST 1048576: true; the input reads as it did. -/
def fnExactPolePartsUptoRow : OpenClaim := { program := "ythooejkmccdfjaa", sum := "109fb2a41bea6e1c1994d101d22239f5530775bf897c6d4a158f71efb92be30d", func := "loop.example/g00948/laws.FnExactPoleParts", spec := "fnExactPoleParts", apart := false, narrowed := true }
def FnExactPolePartsUptoSaid : Prop := fnExactPolePartsUptoRow.holds Try.pinned (OpenSpec.upto fnExactPolePartsSpec)

/-- 'laws.FnExactAxesOf', WHERE WHAT IT READS IS OF BULK AT MOST 1048576: true; the input reads as it did. -/
def fnExactAxesOfUptoRow : OpenClaim := { program := "ythooejkmccdfjaa", sum := "109fb2a41bea6e1c1994d101d22239f5530775bf897c6d4a158f71efb92be30d", func := "loop.example/g00948/laws.FnExactAxesOf", spec := "fnExactAxesOf", apart := false, narrowed := true }
def FnExactAxesOfUptoSaid : Prop := fnExactAxesOfUptoRow.holds Try.pinned (OpenSpec.upto fnExactAxesOfSpec)

/-- 'laws.FnExactSunDirection', WHERE WHAT IT READS IS OF BULK AT MOST 1048576: true; the input reads as it did. -/
def fnExactSunDirectionUptoRow : OpenClaim := { program := "ythooejkmccdfjaa", sum := "109fb2a41bea6e1c1994d101d22239f5530775bf897c6d4a158f71efb92be30d", func := "loop.example/g00948/laws.FnExactSunDirection", spec := "fnExactSunDirection", unfollowed := true, recurses := true, apart := false, narrowed := true }
def FnExactSunDirectionUptoSaid : Prop := fnExactSunDirectionUptoRow.holds Try.pinned (OpenSpec.upto fnExactSunDirectionSpec)

/-- 'laws.FnExactPartsOf', WHERE WHAT IT READS IS OF BULK AT MOST 1048576: true; the input reads as it did. -/
def fnExactPartsOfUptoRow : OpenClaim := { program := "ythooejkmccdfjaa", sum := "109fb2a41bea6e1c1994d101d22239f5530775bf897c6d4a158f71efb92be30d", func := "loop.example/g00948/laws.FnExactPartsOf", spec := "fnExactPartsOf", apart := false, narrowed := true }
def FnExactPartsOfUptoSaid : Prop := fnExactPartsOfUptoRow.holds Try.pinned (OpenSpec.upto fnExactPartsOfSpec)

/-- 'laws.FnExactHourNumber', WHERE WHAT IT READS IS OF BULK AT MOST 1048576: true; the input reads as it did. -/
def fnExactHourNumberUptoRow : OpenClaim := { program := "ythooejkmccdfjaa", sum := "109fb2a41bea6e1c1994d101d22239f5530775bf897c6d4a158f71efb92be30d", func := "loop.example/g00948/laws.FnExactHourNumber", spec := "fnExactHourNumber", apart := false, narrowed := true }
def FnExactHourNumberUptoSaid : Prop := fnExactHourNumberUptoRow.holds Try.pinned (OpenSpec.upto fnExactHourNumberSpec)

/-- 'laws.FnExactMinutesWith', WHERE WHAT IT READS IS OF BULK AT MOST 1048576: true; the input reads as it did. -/
def fnExactMinutesWithUptoRow : OpenClaim := { program := "ythooejkmccdfjaa", sum := "109fb2a41bea6e1c1994d101d22239f5530775bf897c6d4a158f71efb92be30d", func := "loop.example/g00948/laws.FnExactMinutesWith", spec := "fnExactMinutesWith", apart := false, narrowed := true }
def FnExactMinutesWithUptoSaid : Prop := fnExactMinutesWithUptoRow.holds Try.pinned (OpenSpec.upto fnExactMinutesWithSpec)

/-- 'laws.FnExactConvertHours', WHERE WHAT IT READS IS OF BULK AT MOST 1048576: true; the input reads as it did. -/
def fnExactConvertHoursUptoRow : OpenClaim := { program := "ythooejkmccdfjaa", sum := "109fb2a41bea6e1c1994d101d22239f5530775bf897c6d4a158f71efb92be30d", func := "loop.example/g00948/laws.FnExactConvertHours", spec := "fnExactConvertHours", apart := false, narrowed := true }
def FnExactConvertHoursUptoSaid : Prop := fnExactConvertHoursUptoRow.holds Try.pinned (OpenSpec.upto fnExactConvertHoursSpec)

/-- 'laws.FnHours', WHERE WHAT IT READS IS OF BULK AT MOST 1048576: true; the input reads as it did. -/
def fnHoursUptoRow : OpenClaim := { program := "ythooejkmccdfjaa", sum := "109fb2a41bea6e1c1994d101d22239f5530775bf897c6d4a158f71efb92be30d", func := "loop.example/g00948/laws.FnHours", spec := "fnHours", apart := false, narrowed := true }
def FnHoursUptoSaid : Prop := fnHoursUptoRow.holds Try.pinned (OpenSpec.upto fnHoursSpec)

/-- 'laws.FnConverted', WHERE WHAT IT READS IS OF BULK AT MOST 1048576: true; the input reads as it did. -/
def fnConvertedUptoRow : OpenClaim := { program := "ythooejkmccdfjaa", sum := "109fb2a41bea6e1c1994d101d22239f5530775bf897c6d4a158f71efb92be30d", func := "loop.example/g00948/laws.FnConverted", spec := "fnConverted", apart := false, narrowed := true }
def FnConvertedUptoSaid : Prop := fnConvertedUptoRow.holds Try.pinned (OpenSpec.upto fnConvertedSpec)

/-- 'laws.FnExactNearestCurve', WHERE WHAT IT READS IS OF BULK AT MOST 1048576: true; the input reads as it did. -/
def fnExactNearestCurveUptoRow : OpenClaim := { program := "ythooejkmccdfjaa", sum := "109fb2a41bea6e1c1994d101d22239f5530775bf897c6d4a158f71efb92be30d", func := "loop.example/g00948/laws.FnExactNearestCurve", spec := "fnExactNearestCurve", unfollowed := true, recurses := true, apart := false, narrowed := true }
def FnExactNearestCurveUptoSaid : Prop := fnExactNearestCurveUptoRow.holds Try.pinned (OpenSpec.upto fnExactNearestCurveSpec)

/-- 'laws.FnExactCurveBounds', WHERE WHAT IT READS IS OF BULK AT MOST 1048576: true; the input reads as it did. -/
def fnExactCurveBoundsUptoRow : OpenClaim := { program := "ythooejkmccdfjaa", sum := "109fb2a41bea6e1c1994d101d22239f5530775bf897c6d4a158f71efb92be30d", func := "loop.example/g00948/laws.FnExactCurveBounds", spec := "fnExactCurveBounds", unfollowed := true, recurses := true, apart := false, narrowed := true }
def FnExactCurveBoundsUptoSaid : Prop := fnExactCurveBoundsUptoRow.holds Try.pinned (OpenSpec.upto fnExactCurveBoundsSpec)

end Rows
end Go.Proofs.Ythooejkmccdfjaa
