/-
  No cell of these rows narrows 'for every input' (looked for: loops, veiled, ifaces, maps, wideKeys, modest, calm, conditions, laid).
  DERIVED. THE GIVEN ROWS OF THIS SEAT. 12 by the template 'for every input the law returns true; each argument reads behind the call as it read before'; 0 by the template 'total and deterministic' (their statements: YtecnjkhncdjebaaTotals.lean).
  GIVEN WITH THE SEED: the statements are not yours to turn. If you find one false, say at which input.
  Laid BY PROGRAM, IN A SANDBOX (cutbox-rows.mjs): the forced cells as the released guide's own fill.sh prints them over the translation 997505336f4ddd21… (all of the seat's roots in one cut). By AI agents, Wed Nov 11 2026. No macro, syntax, notation, axiom, sorry.
-/
import Derived.Test.YtecnjkhncdjebaaChecked
import GoSem.Claim
import GoSem.ClaimJoined
import GoSem.ClaimMapViews
import Derived.JoinedTies
import Derived.KernelRfl
namespace Go.Proofs.Ytecnjkhncdjebaa
/- THE CELL 'sum', in the pinned program and in every row, IS THE sha256 OF THE DUMP (.gsa) THAT YtecnjkhncdjebaaProg.lean LOADS. Nothing in Lean hashes anything: it is a label: what it is worth is what the hold of that sum in a sandbox is worth. -/
noncomputable def Try.pinned : Pinned := { name := "ytecnjkhncdjebaa", sum := "997505336f4ddd21c425834f613f091f3ec72279501a28a0ecd8e1b10c157361", checked := Try.checked }
namespace Rows
def none {H : Type} : Left H := { results := [], args := [] }

/-- 'laws.FnExactMeetFaces': WHATEVER THE INPUT: true; the input reads as it did. -/
def fnExactMeetFacesSpec : ChangeSpec := { name := "fnExactMeetFaces", fn := fun _ => fun
  | [d1, d2] => { results := [.lit (.bool true)], args := [d1, d2] }
  | _ => none }
def fnExactMeetFacesRow : OpenClaim := { program := "ytecnjkhncdjebaa", sum := "997505336f4ddd21c425834f613f091f3ec72279501a28a0ecd8e1b10c157361", func := "loop.example/g00948/laws.FnExactMeetFaces", spec := "fnExactMeetFaces", apart := false }
def FnExactMeetFacesSaid : Prop := fnExactMeetFacesRow.holds Try.pinned (OpenSpec.ofChange fnExactMeetFacesSpec)

/-- ITS FALSE NEIGHBOUR: 'it returns false'. Refute it at one input. -/
def fnExactMeetFacesWrong : ChangeSpec := { name := "fnExactMeetFaces", fn := fun _ => fun
  | [d1, d2] => { results := [.lit (.bool false)], args := [d1, d2] }
  | _ => none }
def FnExactMeetFacesWrongFalsely : Prop := fnExactMeetFacesRow.holds Try.pinned (OpenSpec.ofChange fnExactMeetFacesWrong)

/-- 'laws.FnExactInFace': WHATEVER THE INPUT: true; the input reads as it did. -/
def fnExactInFaceSpec : ChangeSpec := { name := "fnExactInFace", fn := fun _ => fun
  | [d1, d2] => { results := [.lit (.bool true)], args := [d1, d2] }
  | _ => none }
def fnExactInFaceRow : OpenClaim := { program := "ytecnjkhncdjebaa", sum := "997505336f4ddd21c425834f613f091f3ec72279501a28a0ecd8e1b10c157361", func := "loop.example/g00948/laws.FnExactInFace", spec := "fnExactInFace", apart := false }
def FnExactInFaceSaid : Prop := fnExactInFaceRow.holds Try.pinned (OpenSpec.ofChange fnExactInFaceSpec)

/-- ITS FALSE NEIGHBOUR: 'it returns false'. Refute it at one input. -/
def fnExactInFaceWrong : ChangeSpec := { name := "fnExactInFace", fn := fun _ => fun
  | [d1, d2] => { results := [.lit (.bool false)], args := [d1, d2] }
  | _ => none }
def FnExactInFaceWrongFalsely : Prop := fnExactInFaceRow.holds Try.pinned (OpenSpec.ofChange fnExactInFaceWrong)

/-- 'laws.FnExactMiddleOf': WHATEVER THE INPUT: true; the input reads as it did. -/
def fnExactMiddleOfSpec : ChangeSpec := { name := "fnExactMiddleOf", fn := fun _ => fun
  | [d] => { results := [.lit (.bool true)], args := [d] }
  | _ => none }
def fnExactMiddleOfRow : OpenClaim := { program := "ytecnjkhncdjebaa", sum := "997505336f4ddd21c425834f613f091f3ec72279501a28a0ecd8e1b10c157361", func := "loop.example/g00948/laws.FnExactMiddleOf", spec := "fnExactMiddleOf", apart := false }
def FnExactMiddleOfSaid : Prop := fnExactMiddleOfRow.holds Try.pinned (OpenSpec.ofChange fnExactMiddleOfSpec)

/-- ITS FALSE NEIGHBOUR: 'it returns false'. Refute it at one input. -/
def fnExactMiddleOfWrong : ChangeSpec := { name := "fnExactMiddleOf", fn := fun _ => fun
  | [d] => { results := [.lit (.bool false)], args := [d] }
  | _ => none }
def FnExactMiddleOfWrongFalsely : Prop := fnExactMiddleOfRow.holds Try.pinned (OpenSpec.ofChange fnExactMiddleOfWrong)

/-- 'laws.FnExactPlaceError': WHATEVER THE INPUT: true; the input reads as it did. -/
def fnExactPlaceErrorSpec : ChangeSpec := { name := "fnExactPlaceError", fn := fun _ => fun
  | [d] => { results := [.lit (.bool true)], args := [d] }
  | _ => none }
def fnExactPlaceErrorRow : OpenClaim := { program := "ytecnjkhncdjebaa", sum := "997505336f4ddd21c425834f613f091f3ec72279501a28a0ecd8e1b10c157361", func := "loop.example/g00948/laws.FnExactPlaceError", spec := "fnExactPlaceError", apart := false }
def FnExactPlaceErrorSaid : Prop := fnExactPlaceErrorRow.holds Try.pinned (OpenSpec.ofChange fnExactPlaceErrorSpec)

/-- ITS FALSE NEIGHBOUR: 'it returns false'. Refute it at one input. -/
def fnExactPlaceErrorWrong : ChangeSpec := { name := "fnExactPlaceError", fn := fun _ => fun
  | [d] => { results := [.lit (.bool false)], args := [d] }
  | _ => none }
def FnExactPlaceErrorWrongFalsely : Prop := fnExactPlaceErrorRow.holds Try.pinned (OpenSpec.ofChange fnExactPlaceErrorWrong)

/-- 'laws.FnExactWidenPlace': WHATEVER THE INPUT: true; the input reads as it did. -/
def fnExactWidenPlaceSpec : ChangeSpec := { name := "fnExactWidenPlace", fn := fun _ => fun
  | [d1, d2] => { results := [.lit (.bool true)], args := [d1, d2] }
  | _ => none }
def fnExactWidenPlaceRow : OpenClaim := { program := "ytecnjkhncdjebaa", sum := "997505336f4ddd21c425834f613f091f3ec72279501a28a0ecd8e1b10c157361", func := "loop.example/g00948/laws.FnExactWidenPlace", spec := "fnExactWidenPlace", apart := false }
def FnExactWidenPlaceSaid : Prop := fnExactWidenPlaceRow.holds Try.pinned (OpenSpec.ofChange fnExactWidenPlaceSpec)

/-- ITS FALSE NEIGHBOUR: 'it returns false'. Refute it at one input. -/
def fnExactWidenPlaceWrong : ChangeSpec := { name := "fnExactWidenPlace", fn := fun _ => fun
  | [d1, d2] => { results := [.lit (.bool false)], args := [d1, d2] }
  | _ => none }
def FnExactWidenPlaceWrongFalsely : Prop := fnExactWidenPlaceRow.holds Try.pinned (OpenSpec.ofChange fnExactWidenPlaceWrong)

/-- 'laws.FnExactIsLine': WHATEVER THE INPUT: true; the input reads as it did. -/
def fnExactIsLineSpec : ChangeSpec := { name := "fnExactIsLine", fn := fun _ => fun
  | [d] => { results := [.lit (.bool true)], args := [d] }
  | _ => none }
def fnExactIsLineRow : OpenClaim := { program := "ytecnjkhncdjebaa", sum := "997505336f4ddd21c425834f613f091f3ec72279501a28a0ecd8e1b10c157361", func := "loop.example/g00948/laws.FnExactIsLine", spec := "fnExactIsLine", unfollowed := true, recurses := true, apart := false }
def FnExactIsLineSaid : Prop := fnExactIsLineRow.holds Try.pinned (OpenSpec.ofChange fnExactIsLineSpec)

/-- ITS FALSE NEIGHBOUR: 'it returns false'. Refute it at one input. -/
def fnExactIsLineWrong : ChangeSpec := { name := "fnExactIsLine", fn := fun _ => fun
  | [d] => { results := [.lit (.bool false)], args := [d] }
  | _ => none }
def FnExactIsLineWrongFalsely : Prop := fnExactIsLineRow.holds Try.pinned (OpenSpec.ofChange fnExactIsLineWrong)

/-- 'laws.FnExactIsNear': WHATEVER THE INPUT: true; the input reads as it did. -/
def fnExactIsNearSpec : ChangeSpec := { name := "fnExactIsNear", fn := fun _ => fun
  | [d1, d2, d3, d4] => { results := [.lit (.bool true)], args := [d1, d2, d3, d4] }
  | _ => none }
def fnExactIsNearRow : OpenClaim := { program := "ytecnjkhncdjebaa", sum := "997505336f4ddd21c425834f613f091f3ec72279501a28a0ecd8e1b10c157361", func := "loop.example/g00948/laws.FnExactIsNear", spec := "fnExactIsNear", apart := false }
def FnExactIsNearSaid : Prop := fnExactIsNearRow.holds Try.pinned (OpenSpec.ofChange fnExactIsNearSpec)

/-- ITS FALSE NEIGHBOUR: 'it returns false'. Refute it at one input. -/
def fnExactIsNearWrong : ChangeSpec := { name := "fnExactIsNear", fn := fun _ => fun
  | [d1, d2, d3, d4] => { results := [.lit (.bool false)], args := [d1, d2, d3, d4] }
  | _ => none }
def FnExactIsNearWrongFalsely : Prop := fnExactIsNearRow.holds Try.pinned (OpenSpec.ofChange fnExactIsNearWrong)

/-- 'laws.FnExactReverseLine': WHATEVER THE INPUT: true; the input reads as it did. -/
def fnExactReverseLineSpec : ChangeSpec := { name := "fnExactReverseLine", fn := fun _ => fun
  | [d] => { results := [.lit (.bool true)], args := [d] }
  | _ => none }
def fnExactReverseLineRow : OpenClaim := { program := "ytecnjkhncdjebaa", sum := "997505336f4ddd21c425834f613f091f3ec72279501a28a0ecd8e1b10c157361", func := "loop.example/g00948/laws.FnExactReverseLine", spec := "fnExactReverseLine", unfollowed := true, recurses := true, apart := false }
def FnExactReverseLineSaid : Prop := fnExactReverseLineRow.holds Try.pinned (OpenSpec.ofChange fnExactReverseLineSpec)

/-- ITS FALSE NEIGHBOUR: 'it returns false'. Refute it at one input. -/
def fnExactReverseLineWrong : ChangeSpec := { name := "fnExactReverseLine", fn := fun _ => fun
  | [d] => { results := [.lit (.bool false)], args := [d] }
  | _ => none }
def FnExactReverseLineWrongFalsely : Prop := fnExactReverseLineRow.holds Try.pinned (OpenSpec.ofChange fnExactReverseLineWrong)

/-- 'laws.FnExactLineLength': WHATEVER THE INPUT: true; the input reads as it did. -/
def fnExactLineLengthSpec : ChangeSpec := { name := "fnExactLineLength", fn := fun _ => fun
  | [d] => { results := [.lit (.bool true)], args := [d] }
  | _ => none }
def fnExactLineLengthRow : OpenClaim := { program := "ytecnjkhncdjebaa", sum := "997505336f4ddd21c425834f613f091f3ec72279501a28a0ecd8e1b10c157361", func := "loop.example/g00948/laws.FnExactLineLength", spec := "fnExactLineLength", unfollowed := true, recurses := true, apart := false }
def FnExactLineLengthSaid : Prop := fnExactLineLengthRow.holds Try.pinned (OpenSpec.ofChange fnExactLineLengthSpec)

/-- ITS FALSE NEIGHBOUR: 'it returns false'. Refute it at one input. -/
def fnExactLineLengthWrong : ChangeSpec := { name := "fnExactLineLength", fn := fun _ => fun
  | [d] => { results := [.lit (.bool false)], args := [d] }
  | _ => none }
def FnExactLineLengthWrongFalsely : Prop := fnExactLineLengthRow.holds Try.pinned (OpenSpec.ofChange fnExactLineLengthWrong)

/-- 'laws.FnExactLineBounds': WHATEVER THE INPUT: true; the input reads as it did. -/
def fnExactLineBoundsSpec : ChangeSpec := { name := "fnExactLineBounds", fn := fun _ => fun
  | [d] => { results := [.lit (.bool true)], args := [d] }
  | _ => none }
def fnExactLineBoundsRow : OpenClaim := { program := "ytecnjkhncdjebaa", sum := "997505336f4ddd21c425834f613f091f3ec72279501a28a0ecd8e1b10c157361", func := "loop.example/g00948/laws.FnExactLineBounds", spec := "fnExactLineBounds", unfollowed := true, recurses := true, apart := false }
def FnExactLineBoundsSaid : Prop := fnExactLineBoundsRow.holds Try.pinned (OpenSpec.ofChange fnExactLineBoundsSpec)

/-- ITS FALSE NEIGHBOUR: 'it returns false'. Refute it at one input. -/
def fnExactLineBoundsWrong : ChangeSpec := { name := "fnExactLineBounds", fn := fun _ => fun
  | [d] => { results := [.lit (.bool false)], args := [d] }
  | _ => none }
def FnExactLineBoundsWrongFalsely : Prop := fnExactLineBoundsRow.holds Try.pinned (OpenSpec.ofChange fnExactLineBoundsWrong)

/-- 'laws.FnExactSimplifyLine': WHATEVER THE INPUT: true; the input reads as it did. -/
def fnExactSimplifyLineSpec : ChangeSpec := { name := "fnExactSimplifyLine", fn := fun _ => fun
  | [d1, d2] => { results := [.lit (.bool true)], args := [d1, d2] }
  | _ => none }
def fnExactSimplifyLineRow : OpenClaim := { program := "ytecnjkhncdjebaa", sum := "997505336f4ddd21c425834f613f091f3ec72279501a28a0ecd8e1b10c157361", func := "loop.example/g00948/laws.FnExactSimplifyLine", spec := "fnExactSimplifyLine", unfollowed := true, recurses := true, apart := false }
def FnExactSimplifyLineSaid : Prop := fnExactSimplifyLineRow.holds Try.pinned (OpenSpec.ofChange fnExactSimplifyLineSpec)

/-- ITS FALSE NEIGHBOUR: 'it returns false'. Refute it at one input. -/
def fnExactSimplifyLineWrong : ChangeSpec := { name := "fnExactSimplifyLine", fn := fun _ => fun
  | [d1, d2] => { results := [.lit (.bool false)], args := [d1, d2] }
  | _ => none }
def FnExactSimplifyLineWrongFalsely : Prop := fnExactSimplifyLineRow.holds Try.pinned (OpenSpec.ofChange fnExactSimplifyLineWrong)

/-- 'laws.FnSimplified': WHATEVER THE INPUT: true; the input reads as it did. -/
def fnSimplifiedSpec : ChangeSpec := { name := "fnSimplified", fn := fun _ => fun
  | [d] => { results := [.lit (.bool true)], args := [d] }
  | _ => none }
def fnSimplifiedRow : OpenClaim := { program := "ytecnjkhncdjebaa", sum := "997505336f4ddd21c425834f613f091f3ec72279501a28a0ecd8e1b10c157361", func := "loop.example/g00948/laws.FnSimplified", spec := "fnSimplified", unfollowed := true, recurses := true, apart := false }
def FnSimplifiedSaid : Prop := fnSimplifiedRow.holds Try.pinned (OpenSpec.ofChange fnSimplifiedSpec)

/-- ITS FALSE NEIGHBOUR: 'it returns false'. Refute it at one input. -/
def fnSimplifiedWrong : ChangeSpec := { name := "fnSimplified", fn := fun _ => fun
  | [d] => { results := [.lit (.bool false)], args := [d] }
  | _ => none }
def FnSimplifiedWrongFalsely : Prop := fnSimplifiedRow.holds Try.pinned (OpenSpec.ofChange fnSimplifiedWrong)

/- THE SECOND FORM. 'bulk': how many values and letters a reading holds, each counted each time it is reached (what is shared counts as often as it is met; a slice's spare places count too). A statement '..UptoSaid' is the law's where the arguments, and the package variables that the reading takes, are together of bulk at most 1048576: NARROWER than '..Said'. Prove '..Said' where nothing that the law and all that it calls make is longer than what came in: it says more and counts as full. Else prove '..UptoSaid'. A law counts once. -/
mutual
def uptoBulk {H : Type} : DataW H → Nat
  | .lit (.string bytes) => bytes.length + 1
  | .lit _ => 1
  | .nil => 1
  | .ptr d => uptoBulk d + 1
  | .slice elems spare => uptoBulkAll elems + uptoBulkAll spare + 1
  | .agg parts => uptoBulkAll parts + 1
  | .iface _ d => uptoBulk d + 1
  | .map entries => uptoBulkEntries entries + 1
  | .held _ => 1
def uptoBulkAll {H : Type} : List (DataW H) → Nat
  | [] => 0
  | d :: r => uptoBulk d + uptoBulkAll r
def uptoBulkEntries {H : Type} : List (Lit × DataW H) → Nat
  | [] => 0
  | x :: r => uptoBulkEntry x + uptoBulkEntries r
def uptoBulkEntry {H : Type} : Lit × DataW H → Nat
  | (.string bytes, d) => bytes.length + uptoBulk d + 1
  | (_, d) => uptoBulk d + 1
 end
def uptoSmall : (H : Type) → List (DataW H) → Bool := fun _ ds => decide (uptoBulkAll ds ≤ 1048576)
def OpenSpec.upto (s : _root_.Go.ChangeSpec) : _root_.Go.OpenSpec := { _root_.Go.OpenSpec.ofChange s with cond := some uptoSmall }

/-- 'laws.FnExactMeetFaces', WHERE WHAT IT READS IS OF BULK AT MOST 1048576: true; the input reads as it did. -/
def fnExactMeetFacesUptoRow : OpenClaim := { program := "ytecnjkhncdjebaa", sum := "997505336f4ddd21c425834f613f091f3ec72279501a28a0ecd8e1b10c157361", func := "loop.example/g00948/laws.FnExactMeetFaces", spec := "fnExactMeetFaces", apart := false, narrowed := true }
def FnExactMeetFacesUptoSaid : Prop := fnExactMeetFacesUptoRow.holds Try.pinned (OpenSpec.upto fnExactMeetFacesSpec)

/-- 'laws.FnExactInFace', WHERE WHAT IT READS IS OF BULK AT MOST 1048576: true; the input reads as it did. -/
def fnExactInFaceUptoRow : OpenClaim := { program := "ytecnjkhncdjebaa", sum := "997505336f4ddd21c425834f613f091f3ec72279501a28a0ecd8e1b10c157361", func := "loop.example/g00948/laws.FnExactInFace", spec := "fnExactInFace", apart := false, narrowed := true }
def FnExactInFaceUptoSaid : Prop := fnExactInFaceUptoRow.holds Try.pinned (OpenSpec.upto fnExactInFaceSpec)

/-- 'laws.FnExactMiddleOf', WHERE WHAT IT READS IS OF BULK AT MOST 1048576: true; the input reads as it did. -/
def fnExactMiddleOfUptoRow : OpenClaim := { program := "ytecnjkhncdjebaa", sum := "997505336f4ddd21c425834f613f091f3ec72279501a28a0ecd8e1b10c157361", func := "loop.example/g00948/laws.FnExactMiddleOf", spec := "fnExactMiddleOf", apart := false, narrowed := true }
def FnExactMiddleOfUptoSaid : Prop := fnExactMiddleOfUptoRow.holds Try.pinned (OpenSpec.upto fnExactMiddleOfSpec)

/-- 'laws.FnExactPlaceError', WHERE WHAT IT READS IS OF BULK AT MOST 1048576: true; the input reads as it did. -/
def fnExactPlaceErrorUptoRow : OpenClaim := { program := "ytecnjkhncdjebaa", sum := "997505336f4ddd21c425834f613f091f3ec72279501a28a0ecd8e1b10c157361", func := "loop.example/g00948/laws.FnExactPlaceError", spec := "fnExactPlaceError", apart := false, narrowed := true }
def FnExactPlaceErrorUptoSaid : Prop := fnExactPlaceErrorUptoRow.holds Try.pinned (OpenSpec.upto fnExactPlaceErrorSpec)

/-- 'laws.FnExactWidenPlace', WHERE WHAT IT READS IS OF BULK AT MOST 1048576: true; the input reads as it did. -/
def fnExactWidenPlaceUptoRow : OpenClaim := { program := "ytecnjkhncdjebaa", sum := "997505336f4ddd21c425834f613f091f3ec72279501a28a0ecd8e1b10c157361", func := "loop.example/g00948/laws.FnExactWidenPlace", spec := "fnExactWidenPlace", apart := false, narrowed := true }
def FnExactWidenPlaceUptoSaid : Prop := fnExactWidenPlaceUptoRow.holds Try.pinned (OpenSpec.upto fnExactWidenPlaceSpec)

/-- 'laws.FnExactIsLine', WHERE WHAT IT READS IS OF BULK AT MOST 1048576: true; the input reads as it did. -/
def fnExactIsLineUptoRow : OpenClaim := { program := "ytecnjkhncdjebaa", sum := "997505336f4ddd21c425834f613f091f3ec72279501a28a0ecd8e1b10c157361", func := "loop.example/g00948/laws.FnExactIsLine", spec := "fnExactIsLine", unfollowed := true, recurses := true, apart := false, narrowed := true }
def FnExactIsLineUptoSaid : Prop := fnExactIsLineUptoRow.holds Try.pinned (OpenSpec.upto fnExactIsLineSpec)

/-- 'laws.FnExactIsNear', WHERE WHAT IT READS IS OF BULK AT MOST 1048576: true; the input reads as it did. -/
def fnExactIsNearUptoRow : OpenClaim := { program := "ytecnjkhncdjebaa", sum := "997505336f4ddd21c425834f613f091f3ec72279501a28a0ecd8e1b10c157361", func := "loop.example/g00948/laws.FnExactIsNear", spec := "fnExactIsNear", apart := false, narrowed := true }
def FnExactIsNearUptoSaid : Prop := fnExactIsNearUptoRow.holds Try.pinned (OpenSpec.upto fnExactIsNearSpec)

/-- 'laws.FnExactReverseLine', WHERE WHAT IT READS IS OF BULK AT MOST 1048576: true; the input reads as it did. -/
def fnExactReverseLineUptoRow : OpenClaim := { program := "ytecnjkhncdjebaa", sum := "997505336f4ddd21c425834f613f091f3ec72279501a28a0ecd8e1b10c157361", func := "loop.example/g00948/laws.FnExactReverseLine", spec := "fnExactReverseLine", unfollowed := true, recurses := true, apart := false, narrowed := true }
def FnExactReverseLineUptoSaid : Prop := fnExactReverseLineUptoRow.holds Try.pinned (OpenSpec.upto fnExactReverseLineSpec)

/-- 'laws.FnExactLineLength', WHERE WHAT IT READS IS OF BULK AT MOST 1048576: true; the input reads as it did. -/
def fnExactLineLengthUptoRow : OpenClaim := { program := "ytecnjkhncdjebaa", sum := "997505336f4ddd21c425834f613f091f3ec72279501a28a0ecd8e1b10c157361", func := "loop.example/g00948/laws.FnExactLineLength", spec := "fnExactLineLength", unfollowed := true, recurses := true, apart := false, narrowed := true }
def FnExactLineLengthUptoSaid : Prop := fnExactLineLengthUptoRow.holds Try.pinned (OpenSpec.upto fnExactLineLengthSpec)

/-- 'laws.FnExactLineBounds', WHERE WHAT IT READS IS OF BULK AT MOST 1048576: true; the input reads as it did. -/
def fnExactLineBoundsUptoRow : OpenClaim := { program := "ytecnjkhncdjebaa", sum := "997505336f4ddd21c425834f613f091f3ec72279501a28a0ecd8e1b10c157361", func := "loop.example/g00948/laws.FnExactLineBounds", spec := "fnExactLineBounds", unfollowed := true, recurses := true, apart := false, narrowed := true }
def FnExactLineBoundsUptoSaid : Prop := fnExactLineBoundsUptoRow.holds Try.pinned (OpenSpec.upto fnExactLineBoundsSpec)

/-- 'laws.FnExactSimplifyLine', WHERE WHAT IT READS IS OF BULK AT MOST 1048576: true; the input reads as it did. -/
def fnExactSimplifyLineUptoRow : OpenClaim := { program := "ytecnjkhncdjebaa", sum := "997505336f4ddd21c425834f613f091f3ec72279501a28a0ecd8e1b10c157361", func := "loop.example/g00948/laws.FnExactSimplifyLine", spec := "fnExactSimplifyLine", unfollowed := true, recurses := true, apart := false, narrowed := true }
def FnExactSimplifyLineUptoSaid : Prop := fnExactSimplifyLineUptoRow.holds Try.pinned (OpenSpec.upto fnExactSimplifyLineSpec)

/-- 'laws.FnSimplified', WHERE WHAT IT READS IS OF BULK AT MOST 1048576: true; the input reads as it did. -/
def fnSimplifiedUptoRow : OpenClaim := { program := "ytecnjkhncdjebaa", sum := "997505336f4ddd21c425834f613f091f3ec72279501a28a0ecd8e1b10c157361", func := "loop.example/g00948/laws.FnSimplified", spec := "fnSimplified", unfollowed := true, recurses := true, apart := false, narrowed := true }
def FnSimplifiedUptoSaid : Prop := fnSimplifiedUptoRow.holds Try.pinned (OpenSpec.upto fnSimplifiedSpec)

end Rows
end Go.Proofs.Ytecnjkhncdjebaa
