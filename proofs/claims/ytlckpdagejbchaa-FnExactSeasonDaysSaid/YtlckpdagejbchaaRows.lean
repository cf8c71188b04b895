/-
  No cell of these rows narrows 'for every input' (looked for: loops, veiled, ifaces, maps, wideKeys, modest, calm, conditions, laid).
  DERIVED. THE GIVEN ROWS OF THIS SEAT. 12 by the template 'for every input the law returns true; each argument reads behind the call as it read before'; 0 by the template 'total and deterministic' (their statements: YtlckpdagejbchaaTotals.lean).
  GIVEN WITH THE SEED: the statements are not yours to turn. If you find one false, say at which input.
  Laid BY PROGRAM, IN A SANDBOX (cutbox-rows.mjs): the forced cells as the released guide's own fill.sh prints them over the translation 22c4313aaa16c199… (all of the seat's roots in one cut). By AI agents, Wed Nov 11 2026. No macro, syntax, notation, axiom, sorry.
-/
import Derived.Test.YtlckpdagejbchaaChecked
import GoSem.Claim
import GoSem.ClaimJoined
import GoSem.ClaimMapViews
import Derived.JoinedTies
import Derived.KernelRfl
namespace Go.Proofs.Ytlckpdagejbchaa
/- THE CELL 'sum', in the pinned program and in every row, IS THE sha256 OF THE DUMP (.gsa) THAT YtlckpdagejbchaaProg.lean LOADS. Nothing in Lean hashes anything: it is a label: what it is worth is what the hold of that sum in a sandbox is worth. -/
noncomputable def Try.pinned : Pinned := { name := "ytlckpdagejbchaa", sum := "22c4313aaa16c1999778320de0df69cf7dee99bf9eead36fdefb19a7b88912d6", checked := Try.checked }
namespace Rows
def none {H : Type} : Left H := { results := [], args := [] }

/-- 'laws.FnExactSunLongitude': WHATEVER THE INPUT: true; the input reads as it did. -/
def fnExactSunLongitudeSpec : ChangeSpec := { name := "fnExactSunLongitude", fn := fun _ => fun
  | [d] => { results := [.lit (.bool true)], args := [d] }
  | _ => none }
def fnExactSunLongitudeRow : OpenClaim := { program := "ytlckpdagejbchaa", sum := "22c4313aaa16c1999778320de0df69cf7dee99bf9eead36fdefb19a7b88912d6", func := "loop.example/g00948/laws.FnExactSunLongitude", spec := "fnExactSunLongitude", apart := false }
def FnExactSunLongitudeSaid : Prop := fnExactSunLongitudeRow.holds Try.pinned (OpenSpec.ofChange fnExactSunLongitudeSpec)

/-- ITS FALSE NEIGHBOUR: 'it returns false'. Refute it at one input. -/
def fnExactSunLongitudeWrong : ChangeSpec := { name := "fnExactSunLongitude", fn := fun _ => fun
  | [d] => { results := [.lit (.bool false)], args := [d] }
  | _ => none }
def FnExactSunLongitudeWrongFalsely : Prop := fnExactSunLongitudeRow.holds Try.pinned (OpenSpec.ofChange fnExactSunLongitudeWrong)

/-- 'laws.FnExactNextLongitude': WHATEVER THE INPUT: true; the input reads as it did. -/
def fnExactNextLongitudeSpec : ChangeSpec := { name := "fnExactNextLongitude", fn := fun _ => fun
  | [d1, d2] => { results := [.lit (.bool true)], args := [d1, d2] }
  | _ => none }
def fnExactNextLongitudeRow : OpenClaim := { program := "ytlckpdagejbchaa", sum := "22c4313aaa16c1999778320de0df69cf7dee99bf9eead36fdefb19a7b88912d6", func := "loop.example/g00948/laws.FnExactNextLongitude", spec := "fnExactNextLongitude", apart := false }
def FnExactNextLongitudeSaid : Prop := fnExactNextLongitudeRow.holds Try.pinned (OpenSpec.ofChange fnExactNextLongitudeSpec)

/-- ITS FALSE NEIGHBOUR: 'it returns false'. Refute it at one input. -/
def fnExactNextLongitudeWrong : ChangeSpec := { name := "fnExactNextLongitude", fn := fun _ => fun
  | [d1, d2] => { results := [.lit (.bool false)], args := [d1, d2] }
  | _ => none }
def FnExactNextLongitudeWrongFalsely : Prop := fnExactNextLongitudeRow.holds Try.pinned (OpenSpec.ofChange fnExactNextLongitudeWrong)

/-- 'laws.FnExactIsSummerDay': WHATEVER THE INPUT: true; the input reads as it did. -/
def fnExactIsSummerDaySpec : ChangeSpec := { name := "fnExactIsSummerDay", fn := fun _ => fun
  | [d1, d2] => { results := [.lit (.bool true)], args := [d1, d2] }
  | _ => none }
def fnExactIsSummerDayRow : OpenClaim := { program := "ytlckpdagejbchaa", sum := "22c4313aaa16c1999778320de0df69cf7dee99bf9eead36fdefb19a7b88912d6", func := "loop.example/g00948/laws.FnExactIsSummerDay", spec := "fnExactIsSummerDay", apart := false }
def FnExactIsSummerDaySaid : Prop := fnExactIsSummerDayRow.holds Try.pinned (OpenSpec.ofChange fnExactIsSummerDaySpec)

/-- ITS FALSE NEIGHBOUR: 'it returns false'. Refute it at one input. -/
def fnExactIsSummerDayWrong : ChangeSpec := { name := "fnExactIsSummerDay", fn := fun _ => fun
  | [d1, d2] => { results := [.lit (.bool false)], args := [d1, d2] }
  | _ => none }
def FnExactIsSummerDayWrongFalsely : Prop := fnExactIsSummerDayRow.holds Try.pinned (OpenSpec.ofChange fnExactIsSummerDayWrong)

/-- 'laws.FnExactOffsetOf': WHATEVER THE INPUT: true; the input reads as it did. -/
def fnExactOffsetOfSpec : ChangeSpec := { name := "fnExactOffsetOf", fn := fun _ => fun
  | [d1, d2] => { results := [.lit (.bool true)], args := [d1, d2] }
  | _ => none }
def fnExactOffsetOfRow : OpenClaim := { program := "ytlckpdagejbchaa", sum := "22c4313aaa16c1999778320de0df69cf7dee99bf9eead36fdefb19a7b88912d6", func := "loop.example/g00948/laws.FnExactOffsetOf", spec := "fnExactOffsetOf", apart := false }
def FnExactOffsetOfSaid : Prop := fnExactOffsetOfRow.holds Try.pinned (OpenSpec.ofChange fnExactOffsetOfSpec)

/-- ITS FALSE NEIGHBOUR: 'it returns false'. Refute it at one input. -/
def fnExactOffsetOfWrong : ChangeSpec := { name := "fnExactOffsetOf", fn := fun _ => fun
  | [d1, d2] => { results := [.lit (.bool false)], args := [d1, d2] }
  | _ => none }
def FnExactOffsetOfWrongFalsely : Prop := fnExactOffsetOfRow.holds Try.pinned (OpenSpec.ofChange fnExactOffsetOfWrong)

/-- 'laws.FnExactCivilOf': WHATEVER THE INPUT: true; the input reads as it did. -/
def fnExactCivilOfSpec : ChangeSpec := { name := "fnExactCivilOf", fn := fun _ => fun
  | [d1, d2, d3] => { results := [.lit (.bool true)], args := [d1, d2, d3] }
  | _ => none }
def fnExactCivilOfRow : OpenClaim := { program := "ytlckpdagejbchaa", sum := "22c4313aaa16c1999778320de0df69cf7dee99bf9eead36fdefb19a7b88912d6", func := "loop.example/g00948/laws.FnExactCivilOf", spec := "fnExactCivilOf", apart := false }
def FnExactCivilOfSaid : Prop := fnExactCivilOfRow.holds Try.pinned (OpenSpec.ofChange fnExactCivilOfSpec)

/-- ITS FALSE NEIGHBOUR: 'it returns false'. Refute it at one input. -/
def fnExactCivilOfWrong : ChangeSpec := { name := "fnExactCivilOf", fn := fun _ => fun
  | [d1, d2, d3] => { results := [.lit (.bool false)], args := [d1, d2, d3] }
  | _ => none }
def FnExactCivilOfWrongFalsely : Prop := fnExactCivilOfRow.holds Try.pinned (OpenSpec.ofChange fnExactCivilOfWrong)

/-- 'laws.FnExactUniversalOf': WHATEVER THE INPUT: true; the input reads as it did. -/
def fnExactUniversalOfSpec : ChangeSpec := { name := "fnExactUniversalOf", fn := fun _ => fun
  | [d1, d2, d3] => { results := [.lit (.bool true)], args := [d1, d2, d3] }
  | _ => none }
def fnExactUniversalOfRow : OpenClaim := { program := "ytlckpdagejbchaa", sum := "22c4313aaa16c1999778320de0df69cf7dee99bf9eead36fdefb19a7b88912d6", func := "loop.example/g00948/laws.FnExactUniversalOf", spec := "fnExactUniversalOf", apart := false }
def FnExactUniversalOfSaid : Prop := fnExactUniversalOfRow.holds Try.pinned (OpenSpec.ofChange fnExactUniversalOfSpec)

/-- ITS FALSE NEIGHBOUR: 'it returns false'. Refute it at one input. -/
def fnExactUniversalOfWrong : ChangeSpec := { name := "fnExactUniversalOf", fn := fun _ => fun
  | [d1, d2, d3] => { results := [.lit (.bool false)], args := [d1, d2, d3] }
  | _ => none }
def FnExactUniversalOfWrongFalsely : Prop := fnExactUniversalOfRow.holds Try.pinned (OpenSpec.ofChange fnExactUniversalOfWrong)

/-- 'laws.FnExactSolarOf': WHATEVER THE INPUT: true; the input reads as it did. -/
def fnExactSolarOfSpec : ChangeSpec := { name := "fnExactSolarOf", fn := fun _ => fun
  | [d1, d2, d3, d4] => { results := [.lit (.bool true)], args := [d1, d2, d3, d4] }
  | _ => none }
def fnExactSolarOfRow : OpenClaim := { program := "ytlckpdagejbchaa", sum := "22c4313aaa16c1999778320de0df69cf7dee99bf9eead36fdefb19a7b88912d6", func := "loop.example/g00948/laws.FnExactSolarOf", spec := "fnExactSolarOf", unfollowed := true, recurses := true, apart := false }
def FnExactSolarOfSaid : Prop := fnExactSolarOfRow.holds Try.pinned (OpenSpec.ofChange fnExactSolarOfSpec)

/-- ITS FALSE NEIGHBOUR: 'it returns false'. Refute it at one input. -/
def fnExactSolarOfWrong : ChangeSpec := { name := "fnExactSolarOf", fn := fun _ => fun
  | [d1, d2, d3, d4] => { results := [.lit (.bool false)], args := [d1, d2, d3, d4] }
  | _ => none }
def FnExactSolarOfWrongFalsely : Prop := fnExactSolarOfRow.holds Try.pinned (OpenSpec.ofChange fnExactSolarOfWrong)

/-- 'laws.FnExactClockError': WHATEVER THE INPUT: true; the input reads as it did. -/
def fnExactClockErrorSpec : ChangeSpec := { name := "fnExactClockError", fn := fun _ => fun
  | [d1, d2, d3] => { results := [.lit (.bool true)], args := [d1, d2, d3] }
  | _ => none }
def fnExactClockErrorRow : OpenClaim := { program := "ytlckpdagejbchaa", sum := "22c4313aaa16c1999778320de0df69cf7dee99bf9eead36fdefb19a7b88912d6", func := "loop.example/g00948/laws.FnExactClockError", spec := "fnExactClockError", unfollowed := true, recurses := true, apart := false }
def FnExactClockErrorSaid : Prop := fnExactClockErrorRow.holds Try.pinned (OpenSpec.ofChange fnExactClockErrorSpec)

/-- ITS FALSE NEIGHBOUR: 'it returns false'. Refute it at one input. -/
def fnExactClockErrorWrong : ChangeSpec := { name := "fnExactClockError", fn := fun _ => fun
  | [d1, d2, d3] => { results := [.lit (.bool false)], args := [d1, d2, d3] }
  | _ => none }
def FnExactClockErrorWrongFalsely : Prop := fnExactClockErrorRow.holds Try.pinned (OpenSpec.ofChange fnExactClockErrorWrong)

/-- 'laws.FnExactEquationOfTime': WHATEVER THE INPUT: true; the input reads as it did. -/
def fnExactEquationOfTimeSpec : ChangeSpec := { name := "fnExactEquationOfTime", fn := fun _ => fun
  | [d] => { results := [.lit (.bool true)], args := [d] }
  | _ => none }
def fnExactEquationOfTimeRow : OpenClaim := { program := "ytlckpdagejbchaa", sum := "22c4313aaa16c1999778320de0df69cf7dee99bf9eead36fdefb19a7b88912d6", func := "loop.example/g00948/laws.FnExactEquationOfTime", spec := "fnExactEquationOfTime", unfollowed := true, recurses := true, apart := false }
def FnExactEquationOfTimeSaid : Prop := fnExactEquationOfTimeRow.holds Try.pinned (OpenSpec.ofChange fnExactEquationOfTimeSpec)

/-- ITS FALSE NEIGHBOUR: 'it returns false'. Refute it at one input. -/
def fnExactEquationOfTimeWrong : ChangeSpec := { name := "fnExactEquationOfTime", fn := fun _ => fun
  | [d] => { results := [.lit (.bool false)], args := [d] }
  | _ => none }
def FnExactEquationOfTimeWrongFalsely : Prop := fnExactEquationOfTimeRow.holds Try.pinned (OpenSpec.ofChange fnExactEquationOfTimeWrong)

/-- 'laws.FnExactSeasonDays': WHATEVER THE INPUT: true; the input reads as it did. -/
def fnExactSeasonDaysSpec : ChangeSpec := { name := "fnExactSeasonDays", fn := fun _ => fun
  | [d] => { results := [.lit (.bool true)], args := [d] }
  | _ => none }
def fnExactSeasonDaysRow : OpenClaim := { program := "ytlckpdagejbchaa", sum := "22c4313aaa16c1999778320de0df69cf7dee99bf9eead36fdefb19a7b88912d6", func := "loop.example/g00948/laws.FnExactSeasonDays", spec := "fnExactSeasonDays", apart := false }
def FnExactSeasonDaysSaid : Prop := fnExactSeasonDaysRow.holds Try.pinned (OpenSpec.ofChange fnExactSeasonDaysSpec)

/-- ITS FALSE NEIGHBOUR: 'it returns false'. Refute it at one input. -/
def fnExactSeasonDaysWrong : ChangeSpec := { name := "fnExactSeasonDays", fn := fun _ => fun
  | [d] => { results := [.lit (.bool false)], args := [d] }
  | _ => none }
def FnExactSeasonDaysWrongFalsely : Prop := fnExactSeasonDaysRow.holds Try.pinned (OpenSpec.ofChange fnExactSeasonDaysWrong)

/-- 'laws.FnSeasons': WHATEVER THE INPUT: true; the input reads as it did. -/
def fnSeasonsSpec : ChangeSpec := { name := "fnSeasons", fn := fun _ => fun
  | [d] => { results := [.lit (.bool true)], args := [d] }
  | _ => none }
def fnSeasonsRow : OpenClaim := { program := "ytlckpdagejbchaa", sum := "22c4313aaa16c1999778320de0df69cf7dee99bf9eead36fdefb19a7b88912d6", func := "loop.example/g00948/laws.FnSeasons", spec := "fnSeasons", apart := false }
def FnSeasonsSaid : Prop := fnSeasonsRow.holds Try.pinned (OpenSpec.ofChange fnSeasonsSpec)

/-- ITS FALSE NEIGHBOUR: 'it returns false'. Refute it at one input. -/
def fnSeasonsWrong : ChangeSpec := { name := "fnSeasons", fn := fun _ => fun
  | [d] => { results := [.lit (.bool false)], args := [d] }
  | _ => none }
def FnSeasonsWrongFalsely : Prop := fnSeasonsRow.holds Try.pinned (OpenSpec.ofChange fnSeasonsWrong)

/-- 'laws.FnCivil': WHATEVER THE INPUT: true; the input reads as it did. -/
def fnCivilSpec : ChangeSpec := { name := "fnCivil", fn := fun _ => fun
  | [d] => { results := [.lit (.bool true)], args := [d] }
  | _ => none }
def fnCivilRow : OpenClaim := { program := "ytlckpdagejbchaa", sum := "22c4313aaa16c1999778320de0df69cf7dee99bf9eead36fdefb19a7b88912d6", func := "loop.example/g00948/laws.FnCivil", spec := "fnCivil", apart := false }
def FnCivilSaid : Prop := fnCivilRow.holds Try.pinned (OpenSpec.ofChange fnCivilSpec)

/-- ITS FALSE NEIGHBOUR: 'it returns false'. Refute it at one input. -/
def fnCivilWrong : ChangeSpec := { name := "fnCivil", fn := fun _ => fun
  | [d] => { results := [.lit (.bool false)], args := [d] }
  | _ => none }
def FnCivilWrongFalsely : Prop := fnCivilRow.holds Try.pinned (OpenSpec.ofChange fnCivilWrong)

/- THE SECOND FORM. 'bulk': how many values and letters a reading holds, each counted each time it is reached (what is shared counts as often as it is met; a slice's spare places count too). A statement '..UptoSaid' is the law's where the arguments, and the package variables that the reading takes, are together of bulk at most 1048576: NARROWER than '..Said'. Prove '..Said' where nothing that the law and all that it calls make is longer than what came in: it says more and counts as full. Else prove '..UptoSaid'. A law counts once. -/
mutual
def uptoBulk {H : Type} : DataW H → Nat
  | .lit (.string bytes) => bytes.length + 1
  | .lit _ => 1
  | .nil => 1
  | .ptr d => uptoBulk d + 1
  | .slice elems spare => uptoBulkAll elems + uptoBulkAll spare + 1
  | .agg parts => uptoBulkAll parts + 1
  | .iface _ d => uptoBulk d + 1
  | .map entries => uptoBulkEntries entries + 1
  | .held _ => 1
def uptoBulkAll {H : Type} : List (DataW H) → Nat
  | [] => 0
  | d :: r => uptoBulk d + uptoBulkAll r
def uptoBulkEntries {H : Type} : List (Lit × DataW H) → Nat
  | [] => 0
  | x :: r => uptoBulkEntry x + uptoBulkEntries r
def uptoBulkEntry {H : Type} : Lit × DataW H → Nat
  | (.string bytes, d) => bytes.length + uptoBulk d + 1
  | (_, d) => uptoBulk d + 1
 end
def uptoSmall : (H : Type) → List (DataW H) → Bool := fun _ ds => decide (uptoBulkAll ds ≤ 1048576)
def OpenSpec.upto (s : _root_.Go.ChangeSpec) : _root_.Go.OpenSpec := { _root_.Go.OpenSpec.ofChange s with cond := some uptoSmall }

/-- 'laws.FnExactSunLongitude', WHERE WHAT IT READS IS OF BULK AT MOST 1048576: true; the input reads as it did. -/
def fnExactSunLongitudeUptoRow : OpenClaim := { program := "ytlckpdagejbchaa", sum := "22c4313aaa16c1999778320de0df69cf7dee99bf9eead36fdefb19a7b88912d6", func := "loop.example/g00948/laws.FnExactSunLongitude", spec := "fnExactSunLongitude", apart := false, narrowed := true }
def FnExactSunLongitudeUptoSaid : Prop := fnExactSunLongitudeUptoRow.holds Try.pinned (OpenSpec.upto fnExactSunLongitudeSpec)

/-- 'laws.FnExactNextLongitude', WHERE WHAT IT READS IS OF BULK AT MOST 1048576: true; the input reads as it did. -/
def fnExactNextLongitudeUptoRow : OpenClaim := { program := "ytlckpdagejbchaa", sum := "22c4313aaa16c1999778320de0df69cf7dee99bf9eead36fdefb19a7b88912d6", func := "loop.example/g00948/laws.FnExactNextLongitude", spec := "fnExactNextLongitude", apart := false, narrowed := true }
def FnExactNextLongitudeUptoSaid : Prop := fnExactNextLongitudeUptoRow.holds Try.pinned (OpenSpec.upto fnExactNextLongitudeSpec)

/-- 'laws.FnExactIsSummerDay', WHERE WHAT IT READS IS OF BULK AT MOST 1048576: true; the input reads as it did. -/
def fnExactIsSummerDayUptoRow : OpenClaim := { program := "ytlckpdagejbchaa", sum := "22c4313aaa16c1999778320de0df69cf7dee99bf9eead36fdefb19a7b88912d6", func := "loop.example/g00948/laws.FnExactIsSummerDay", spec := "fnExactIsSummerDay", apart := false, narrowed := true }
def FnExactIsSummerDayUptoSaid : Prop := fnExactIsSummerDayUptoRow.holds Try.pinned (OpenSpec.upto fnExactIsSummerDaySpec)

/-- 'laws.FnExactOffsetOf', WHERE WHAT IT READS IS OF BULK AT MOST 1048576: true; the input reads as it did. -/
def fnExactOffsetOfUptoRow : OpenClaim := { program := "ytlckpdagejbchaa", sum := "22c4313aaa16c1999778320de0df69cf7dee99bf9eead36fdefb19a7b88912d6", func := "loop.example/g00948/laws.FnExactOffsetOf", spec := "fnExactOffsetOf", apart := false, narrowed := true }
def FnExactOffsetOfUptoSaid : Prop := fnExactOffsetOfUptoRow.holds Try.pinned (OpenSpec.upto fnExactOffsetOfSpec)

/-- 'laws.FnExactCivilOf', WHERE WHAT IT READS IS OF BULK AT MOST 1048576: true; the input reads as it did. -/
def fnExactCivilOfUptoRow : OpenClaim := { program := "ytlckpdagejbchaa", sum := "22c4313aaa16c1999778320de0df69cf7dee99bf9eead36fdefb19a7b88912d6", func := "loop.example/g00948/laws.FnExactCivilOf", spec := "fnExactCivilOf", apart := false, narrowed := true }
def FnExactCivilOfUptoSaid : Prop := fnExactCivilOfUptoRow.holds Try.pinned (OpenSpec.upto fnExactCivilOfSpec)

/-- 'laws.FnExactUniversalOf', WHERE WHAT IT READS IS OF BULK AT MOST 1048576: true; the input reads as it did. -/
def fnExactUniversalOfUptoRow : OpenClaim := { program := "ytlckpdagejbchaa", sum := "22c4313aaa16c1999778320de0df69cf7dee99bf9eead36fdefb19a7b88912d6", func := "loop.example/g00948/laws.FnExactUniversalOf", spec := "fnExactUniversalOf", apart := false, narrowed := true }
def FnExactUniversalOfUptoSaid : Prop := fnExactUniversalOfUptoRow.holds Try.pinned (OpenSpec.upto fnExactUniversalOfSpec)

/-- 'laws.FnExactSolarOf', WHERE WHAT IT READS IS OF BULK AT MOST 1048576: true; the input reads as it did. -/
def fnExactSolarOfUptoRow : OpenClaim := { program := "ytlckpdagejbchaa", sum := "22c4313aaa16c1999778320de0df69cf7dee99bf9eead36fdefb19a7b88912d6", func := "loop.example/g00948/laws.FnExactSolarOf", spec := "fnExactSolarOf", unfollowed := true, recurses := true, apart := false, narrowed := true }
def FnExactSolarOfUptoSaid : Prop := fnExactSolarOfUptoRow.holds Try.pinned (OpenSpec.upto fnExactSolarOfSpec)

/-- 'laws.FnExactClockError', WHERE WHAT IT READS IS OF BULK AT MOST 1048576: true; the input reads as it did. -/
def fnExactClockErrorUptoRow : OpenClaim := { program := "ytlckpdagejbchaa", sum := "22c4313aaa16c1999778320de0df69cf7dee99bf9eead36fdefb19a7b88912d6", func := "loop.example/g00948/laws.FnExactClockError", spec := "fnExactClockError", unfollowed := true, recurses := true, apart := false, narrowed := true }
def FnExactClockErrorUptoSaid : Prop := fnExactClockErrorUptoRow.holds Try.pinned (OpenSpec.upto fnExactClockErrorSpec)

/-- 'laws.FnExactEquationOfTime', WHERE WHAT IT READS IS OF BULK AT MOST 1048576: true; the input reads as it did. -/
def fnExactEquationOfTimeUptoRow : OpenClaim := { program := "ytlckpdagejbchaa", sum := "22c4313aaa16c1999778320de0df69cf7dee99bf9eead36fdefb19a7b88912d6", func := "loop.example/g00948/laws.FnExactEquationOfTime", spec := "fnExactEquationOfTime", unfollowed := true, recurses := true, apart := false, narrowed := true }
def FnExactEquationOfTimeUptoSaid : Prop := fnExactEquationOfTimeUptoRow.holds Try.pinned (OpenSpec.upto fnExactEquationOfTimeSpec)

/-- 'laws.FnExactSeasonDays', WHERE WHAT IT READS IS OF BULK AT MOST 1048576: true; the input reads as it did. -/
def fnExactSeasonDaysUptoRow : OpenClaim := { program := "ytlckpdagejbchaa", sum := "22c4313aaa16c1999778320de0df69cf7dee99bf9eead36fdefb19a7b88912d6", func := "loop.example/g00948/laws.FnExactSeasonDays", spec := "fnExactSeasonDays", apart := false, narrowed := true }
def FnExactSeasonDaysUptoSaid : Prop := fnExactSeasonDaysUptoRow.holds Try.pinned (OpenSpec.upto fnExactSeasonDaysSpec)

/-- 'laws.FnSeasons', WHERE WHAT IT READS IS OF BULK AT MOST 1048576: true; the input reads as it did. -/
def fnSeasonsUptoRow : OpenClaim := { program := "ytlckpdagejbchaa", sum := "22c4313aaa16c1999778320de0df69cf7dee99bf9eead36fdefb19a7b88912d6", func := "loop.example/g00948/laws.FnSeasons", spec := "fnSeasons", apart := false, narrowed := true }
def FnSeasonsUptoSaid : Prop := fnSeasonsUptoRow.holds Try.pinned (OpenSpec.upto fnSeasonsSpec)

/-- 'laws.FnCivil', WHERE WHAT IT READS IS OF BULK AT MOST 1048576: true; the input reads as it did. -/
def fnCivilUptoRow : OpenClaim := { program := "ytlckpdagejbchaa", sum := "22c4313aaa16c1999778320de0df69cf7dee99bf9eead36fdefb19a7b88912d6", func := "loop.example/g00948/laws.FnCivil", spec := "fnCivil", apart := false, narrowed := true }
def FnCivilUptoSaid : Prop := fnCivilUptoRow.holds Try.pinned (OpenSpec.upto fnCivilSpec)

end Rows
end Go.Proofs.Ytlckpdagejbchaa
