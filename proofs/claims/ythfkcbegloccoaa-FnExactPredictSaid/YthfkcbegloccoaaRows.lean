/-
  No cell of these rows narrows 'for every input' (looked for: loops, veiled, ifaces, maps, wideKeys, modest, calm, conditions, laid).
  DERIVED. THE GIVEN ROWS OF THIS SEAT. 24 by the template 'for every input the law returns true; each argument reads behind the call as it read before'; 0 by the template 'total and deterministic' (their statements: YthfkcbegloccoaaTotals.lean).
  GIVEN WITH THE SEED: the statements are not yours to turn. If you find one false, say at which input.
  Laid BY PROGRAM, IN A SANDBOX (cutbox-rows.mjs): the forced cells as the released guide's own fill.sh prints them over the translation 0be88df3ea654869… (all of the seat's roots in one cut). By AI agents, Wed Nov 11 2026. No macro, syntax, notation, axiom, sorry.
-/
import Derived.Test.YthfkcbegloccoaaChecked
import GoSem.Claim
import GoSem.ClaimJoined
import GoSem.ClaimMapViews
import Derived.JoinedTies
import Derived.KernelRfl
namespace Go.Proofs.Ythfkcbegloccoaa
/- THE CELL 'sum', in the pinned program and in every row, IS THE sha256 OF THE DUMP (.gsa) THAT YthfkcbegloccoaaProg.lean LOADS. Nothing in Lean hashes anything: it is a label: what it is worth is what the hold of that sum in a sandbox is worth. -/
noncomputable def Try.pinned : Pinned := { name := "ythfkcbegloccoaa", sum := "0be88df3ea654869bf5f533d2639db23e67beb8a33e3d20a512103d724f36cef", checked := Try.checked }
namespace Rows
def none {H : Type} : Left H := { results := [], args := [] }

/-- 'laws.FnExactValidClue': WHATEVER THE INPUT: true; the input reads as it did. -/
def fnExactValidClueSpec : ChangeSpec := { name := "fnExactValidClue", fn := fun _ => fun
  | [d] => { results := [.lit (.bool true)], args := [d] }
  | _ => none }
def fnExactValidClueRow : OpenClaim := { program := "ythfkcbegloccoaa", sum := "0be88df3ea654869bf5f533d2639db23e67beb8a33e3d20a512103d724f36cef", func := "loop.example/g01204/laws.FnExactValidClue", spec := "fnExactValidClue", apart := false }
def FnExactValidClueSaid : Prop := fnExactValidClueRow.holds Try.pinned (OpenSpec.ofChange fnExactValidClueSpec)

/-- ITS FALSE NEIGHBOUR: 'it returns false'. Refute it at one input. -/
def fnExactValidClueWrong : ChangeSpec := { name := "fnExactValidClue", fn := fun _ => fun
  | [d] => { results := [.lit (.bool false)], args := [d] }
  | _ => none }
def FnExactValidClueWrongFalsely : Prop := fnExactValidClueRow.holds Try.pinned (OpenSpec.ofChange fnExactValidClueWrong)

/-- 'laws.FnExactVelocityOf': WHATEVER THE INPUT: true; the input reads as it did. -/
def fnExactVelocityOfSpec : ChangeSpec := { name := "fnExactVelocityOf", fn := fun _ => fun
  | [d] => { results := [.lit (.bool true)], args := [d] }
  | _ => none }
def fnExactVelocityOfRow : OpenClaim := { program := "ythfkcbegloccoaa", sum := "0be88df3ea654869bf5f533d2639db23e67beb8a33e3d20a512103d724f36cef", func := "loop.example/g01204/laws.FnExactVelocityOf", spec := "fnExactVelocityOf", apart := false }
def FnExactVelocityOfSaid : Prop := fnExactVelocityOfRow.holds Try.pinned (OpenSpec.ofChange fnExactVelocityOfSpec)

/-- ITS FALSE NEIGHBOUR: 'it returns false'. Refute it at one input. -/
def fnExactVelocityOfWrong : ChangeSpec := { name := "fnExactVelocityOf", fn := fun _ => fun
  | [d] => { results := [.lit (.bool false)], args := [d] }
  | _ => none }
def FnExactVelocityOfWrongFalsely : Prop := fnExactVelocityOfRow.holds Try.pinned (OpenSpec.ofChange fnExactVelocityOfWrong)

/-- 'laws.FnExactPositionOf': WHATEVER THE INPUT: true; the input reads as it did. -/
def fnExactPositionOfSpec : ChangeSpec := { name := "fnExactPositionOf", fn := fun _ => fun
  | [d] => { results := [.lit (.bool true)], args := [d] }
  | _ => none }
def fnExactPositionOfRow : OpenClaim := { program := "ythfkcbegloccoaa", sum := "0be88df3ea654869bf5f533d2639db23e67beb8a33e3d20a512103d724f36cef", func := "loop.example/g01204/laws.FnExactPositionOf", spec := "fnExactPositionOf", apart := false }
def FnExactPositionOfSaid : Prop := fnExactPositionOfRow.holds Try.pinned (OpenSpec.ofChange fnExactPositionOfSpec)

/-- ITS FALSE NEIGHBOUR: 'it returns false'. Refute it at one input. -/
def fnExactPositionOfWrong : ChangeSpec := { name := "fnExactPositionOf", fn := fun _ => fun
  | [d] => { results := [.lit (.bool false)], args := [d] }
  | _ => none }
def FnExactPositionOfWrongFalsely : Prop := fnExactPositionOfRow.holds Try.pinned (OpenSpec.ofChange fnExactPositionOfWrong)

/-- 'laws.FnExactValidState': WHATEVER THE INPUT: true; the input reads as it did. -/
def fnExactValidStateSpec : ChangeSpec := { name := "fnExactValidState", fn := fun _ => fun
  | [d] => { results := [.lit (.bool true)], args := [d] }
  | _ => none }
def fnExactValidStateRow : OpenClaim := { program := "ythfkcbegloccoaa", sum := "0be88df3ea654869bf5f533d2639db23e67beb8a33e3d20a512103d724f36cef", func := "loop.example/g01204/laws.FnExactValidState", spec := "fnExactValidState", apart := false }
def FnExactValidStateSaid : Prop := fnExactValidStateRow.holds Try.pinned (OpenSpec.ofChange fnExactValidStateSpec)

/-- ITS FALSE NEIGHBOUR: 'it returns false'. Refute it at one input. -/
def fnExactValidStateWrong : ChangeSpec := { name := "fnExactValidState", fn := fun _ => fun
  | [d] => { results := [.lit (.bool false)], args := [d] }
  | _ => none }
def FnExactValidStateWrongFalsely : Prop := fnExactValidStateRow.holds Try.pinned (OpenSpec.ofChange fnExactValidStateWrong)

/-- 'laws.FnExactClueAt': WHATEVER THE INPUT: true; the input reads as it did. -/
def fnExactClueAtSpec : ChangeSpec := { name := "fnExactClueAt", fn := fun _ => fun
  | [d1, d2, d3] => { results := [.lit (.bool true)], args := [d1, d2, d3] }
  | _ => none }
def fnExactClueAtRow : OpenClaim := { program := "ythfkcbegloccoaa", sum := "0be88df3ea654869bf5f533d2639db23e67beb8a33e3d20a512103d724f36cef", func := "loop.example/g01204/laws.FnExactClueAt", spec := "fnExactClueAt", apart := false }
def FnExactClueAtSaid : Prop := fnExactClueAtRow.holds Try.pinned (OpenSpec.ofChange fnExactClueAtSpec)

/-- ITS FALSE NEIGHBOUR: 'it returns false'. Refute it at one input. -/
def fnExactClueAtWrong : ChangeSpec := { name := "fnExactClueAt", fn := fun _ => fun
  | [d1, d2, d3] => { results := [.lit (.bool false)], args := [d1, d2, d3] }
  | _ => none }
def FnExactClueAtWrongFalsely : Prop := fnExactClueAtRow.holds Try.pinned (OpenSpec.ofChange fnExactClueAtWrong)

/-- 'laws.FnExactSameState': WHATEVER THE INPUT: true; the input reads as it did. -/
def fnExactSameStateSpec : ChangeSpec := { name := "fnExactSameState", fn := fun _ => fun
  | [d1, d2] => { results := [.lit (.bool true)], args := [d1, d2] }
  | _ => none }
def fnExactSameStateRow : OpenClaim := { program := "ythfkcbegloccoaa", sum := "0be88df3ea654869bf5f533d2639db23e67beb8a33e3d20a512103d724f36cef", func := "loop.example/g01204/laws.FnExactSameState", spec := "fnExactSameState", inPlace := ["math.Float32bits"], unfollowed := true, recurses := true, apart := false }
def FnExactSameStateSaid : Prop := fnExactSameStateRow.holds Try.pinned (OpenSpec.ofChange fnExactSameStateSpec)

/-- ITS FALSE NEIGHBOUR: 'it returns false'. Refute it at one input. -/
def fnExactSameStateWrong : ChangeSpec := { name := "fnExactSameState", fn := fun _ => fun
  | [d1, d2] => { results := [.lit (.bool false)], args := [d1, d2] }
  | _ => none }
def FnExactSameStateWrongFalsely : Prop := fnExactSameStateRow.holds Try.pinned (OpenSpec.ofChange fnExactSameStateWrong)

/-- 'laws.FnExactStateOf': WHATEVER THE INPUT: true; the input reads as it did. -/
def fnExactStateOfSpec : ChangeSpec := { name := "fnExactStateOf", fn := fun _ => fun
  | [d1, d2] => { results := [.lit (.bool true)], args := [d1, d2] }
  | _ => none }
def fnExactStateOfRow : OpenClaim := { program := "ythfkcbegloccoaa", sum := "0be88df3ea654869bf5f533d2639db23e67beb8a33e3d20a512103d724f36cef", func := "loop.example/g01204/laws.FnExactStateOf", spec := "fnExactStateOf", apart := false }
def FnExactStateOfSaid : Prop := fnExactStateOfRow.holds Try.pinned (OpenSpec.ofChange fnExactStateOfSpec)

/-- ITS FALSE NEIGHBOUR: 'it returns false'. Refute it at one input. -/
def fnExactStateOfWrong : ChangeSpec := { name := "fnExactStateOf", fn := fun _ => fun
  | [d1, d2] => { results := [.lit (.bool false)], args := [d1, d2] }
  | _ => none }
def FnExactStateOfWrongFalsely : Prop := fnExactStateOfRow.holds Try.pinned (OpenSpec.ofChange fnExactStateOfWrong)

/-- 'laws.FnExactCovarianceOf': WHATEVER THE INPUT: true; the input reads as it did. -/
def fnExactCovarianceOfSpec : ChangeSpec := { name := "fnExactCovarianceOf", fn := fun _ => fun
  | [d] => { results := [.lit (.bool true)], args := [d] }
  | _ => none }
def fnExactCovarianceOfRow : OpenClaim := { program := "ythfkcbegloccoaa", sum := "0be88df3ea654869bf5f533d2639db23e67beb8a33e3d20a512103d724f36cef", func := "loop.example/g01204/laws.FnExactCovarianceOf", spec := "fnExactCovarianceOf", apart := false }
def FnExactCovarianceOfSaid : Prop := fnExactCovarianceOfRow.holds Try.pinned (OpenSpec.ofChange fnExactCovarianceOfSpec)

/-- ITS FALSE NEIGHBOUR: 'it returns false'. Refute it at one input. -/
def fnExactCovarianceOfWrong : ChangeSpec := { name := "fnExactCovarianceOf", fn := fun _ => fun
  | [d] => { results := [.lit (.bool false)], args := [d] }
  | _ => none }
def FnExactCovarianceOfWrongFalsely : Prop := fnExactCovarianceOfRow.holds Try.pinned (OpenSpec.ofChange fnExactCovarianceOfWrong)

/-- 'laws.FnExactDifferenceOf': WHATEVER THE INPUT: true; the input reads as it did. -/
def fnExactDifferenceOfSpec : ChangeSpec := { name := "fnExactDifferenceOf", fn := fun _ => fun
  | [d1, d2] => { results := [.lit (.bool true)], args := [d1, d2] }
  | _ => none }
def fnExactDifferenceOfRow : OpenClaim := { program := "ythfkcbegloccoaa", sum := "0be88df3ea654869bf5f533d2639db23e67beb8a33e3d20a512103d724f36cef", func := "loop.example/g01204/laws.FnExactDifferenceOf", spec := "fnExactDifferenceOf", apart := false }
def FnExactDifferenceOfSaid : Prop := fnExactDifferenceOfRow.holds Try.pinned (OpenSpec.ofChange fnExactDifferenceOfSpec)

/-- ITS FALSE NEIGHBOUR: 'it returns false'. Refute it at one input. -/
def fnExactDifferenceOfWrong : ChangeSpec := { name := "fnExactDifferenceOf", fn := fun _ => fun
  | [d1, d2] => { results := [.lit (.bool false)], args := [d1, d2] }
  | _ => none }
def FnExactDifferenceOfWrongFalsely : Prop := fnExactDifferenceOfRow.holds Try.pinned (OpenSpec.ofChange fnExactDifferenceOfWrong)

/-- 'laws.FnExactGateOf': WHATEVER THE INPUT: true; the input reads as it did. -/
def fnExactGateOfSpec : ChangeSpec := { name := "fnExactGateOf", fn := fun _ => fun
  | [d1, d2] => { results := [.lit (.bool true)], args := [d1, d2] }
  | _ => none }
def fnExactGateOfRow : OpenClaim := { program := "ythfkcbegloccoaa", sum := "0be88df3ea654869bf5f533d2639db23e67beb8a33e3d20a512103d724f36cef", func := "loop.example/g01204/laws.FnExactGateOf", spec := "fnExactGateOf", apart := false }
def FnExactGateOfSaid : Prop := fnExactGateOfRow.holds Try.pinned (OpenSpec.ofChange fnExactGateOfSpec)

/-- ITS FALSE NEIGHBOUR: 'it returns false'. Refute it at one input. -/
def fnExactGateOfWrong : ChangeSpec := { name := "fnExactGateOf", fn := fun _ => fun
  | [d1, d2] => { results := [.lit (.bool false)], args := [d1, d2] }
  | _ => none }
def FnExactGateOfWrongFalsely : Prop := fnExactGateOfRow.holds Try.pinned (OpenSpec.ofChange fnExactGateOfWrong)

/-- 'laws.FnExactInverseRoot': WHATEVER THE INPUT: true; the input reads as it did. -/
def fnExactInverseRootSpec : ChangeSpec := { name := "fnExactInverseRoot", fn := fun _ => fun
  | [d] => { results := [.lit (.bool true)], args := [d] }
  | _ => none }
def fnExactInverseRootRow : OpenClaim := { program := "ythfkcbegloccoaa", sum := "0be88df3ea654869bf5f533d2639db23e67beb8a33e3d20a512103d724f36cef", func := "loop.example/g01204/laws.FnExactInverseRoot", spec := "fnExactInverseRoot", apart := false }
def FnExactInverseRootSaid : Prop := fnExactInverseRootRow.holds Try.pinned (OpenSpec.ofChange fnExactInverseRootSpec)

/-- ITS FALSE NEIGHBOUR: 'it returns false'. Refute it at one input. -/
def fnExactInverseRootWrong : ChangeSpec := { name := "fnExactInverseRoot", fn := fun _ => fun
  | [d] => { results := [.lit (.bool false)], args := [d] }
  | _ => none }
def FnExactInverseRootWrongFalsely : Prop := fnExactInverseRootRow.holds Try.pinned (OpenSpec.ofChange fnExactInverseRootWrong)

/-- 'laws.FnExactSpreadOf': WHATEVER THE INPUT: true; the input reads as it did. -/
def fnExactSpreadOfSpec : ChangeSpec := { name := "fnExactSpreadOf", fn := fun _ => fun
  | [d1, d2] => { results := [.lit (.bool true)], args := [d1, d2] }
  | _ => none }
def fnExactSpreadOfRow : OpenClaim := { program := "ythfkcbegloccoaa", sum := "0be88df3ea654869bf5f533d2639db23e67beb8a33e3d20a512103d724f36cef", func := "loop.example/g01204/laws.FnExactSpreadOf", spec := "fnExactSpreadOf", inPlace := ["math.sqrt"], apart := false }
def FnExactSpreadOfSaid : Prop := fnExactSpreadOfRow.holds Try.pinned (OpenSpec.ofChange fnExactSpreadOfSpec)

/-- ITS FALSE NEIGHBOUR: 'it returns false'. Refute it at one input. -/
def fnExactSpreadOfWrong : ChangeSpec := { name := "fnExactSpreadOf", fn := fun _ => fun
  | [d1, d2] => { results := [.lit (.bool false)], args := [d1, d2] }
  | _ => none }
def FnExactSpreadOfWrongFalsely : Prop := fnExactSpreadOfRow.holds Try.pinned (OpenSpec.ofChange fnExactSpreadOfWrong)

/-- 'laws.FnExactLowerOf': WHATEVER THE INPUT: true; the input reads as it did. -/
def fnExactLowerOfSpec : ChangeSpec := { name := "fnExactLowerOf", fn := fun _ => fun
  | [d] => { results := [.lit (.bool true)], args := [d] }
  | _ => none }
def fnExactLowerOfRow : OpenClaim := { program := "ythfkcbegloccoaa", sum := "0be88df3ea654869bf5f533d2639db23e67beb8a33e3d20a512103d724f36cef", func := "loop.example/g01204/laws.FnExactLowerOf", spec := "fnExactLowerOf", inPlace := ["math.sqrt"], apart := false }
def FnExactLowerOfSaid : Prop := fnExactLowerOfRow.holds Try.pinned (OpenSpec.ofChange fnExactLowerOfSpec)

/-- ITS FALSE NEIGHBOUR: 'it returns false'. Refute it at one input. -/
def fnExactLowerOfWrong : ChangeSpec := { name := "fnExactLowerOf", fn := fun _ => fun
  | [d] => { results := [.lit (.bool false)], args := [d] }
  | _ => none }
def FnExactLowerOfWrongFalsely : Prop := fnExactLowerOfRow.holds Try.pinned (OpenSpec.ofChange fnExactLowerOfWrong)

/-- 'laws.FnExactRangeClue': WHATEVER THE INPUT: true; the input reads as it did. -/
def fnExactRangeClueSpec : ChangeSpec := { name := "fnExactRangeClue", fn := fun _ => fun
  | [d1, d2, d3, d4] => { results := [.lit (.bool true)], args := [d1, d2, d3, d4] }
  | _ => none }
def fnExactRangeClueRow : OpenClaim := { program := "ythfkcbegloccoaa", sum := "0be88df3ea654869bf5f533d2639db23e67beb8a33e3d20a512103d724f36cef", func := "loop.example/g01204/laws.FnExactRangeClue", spec := "fnExactRangeClue", inPlace := ["math.sqrt"], apart := false }
def FnExactRangeClueSaid : Prop := fnExactRangeClueRow.holds Try.pinned (OpenSpec.ofChange fnExactRangeClueSpec)

/-- ITS FALSE NEIGHBOUR: 'it returns false'. Refute it at one input. -/
def fnExactRangeClueWrong : ChangeSpec := { name := "fnExactRangeClue", fn := fun _ => fun
  | [d1, d2, d3, d4] => { results := [.lit (.bool false)], args := [d1, d2, d3, d4] }
  | _ => none }
def FnExactRangeClueWrongFalsely : Prop := fnExactRangeClueRow.holds Try.pinned (OpenSpec.ofChange fnExactRangeClueWrong)

/-- 'laws.FnExactDistanceBetween': WHATEVER THE INPUT: true; the input reads as it did. -/
def fnExactDistanceBetweenSpec : ChangeSpec := { name := "fnExactDistanceBetween", fn := fun _ => fun
  | [d1, d2] => { results := [.lit (.bool true)], args := [d1, d2] }
  | _ => none }
def fnExactDistanceBetweenRow : OpenClaim := { program := "ythfkcbegloccoaa", sum := "0be88df3ea654869bf5f533d2639db23e67beb8a33e3d20a512103d724f36cef", func := "loop.example/g01204/laws.FnExactDistanceBetween", spec := "fnExactDistanceBetween", inPlace := ["math.sqrt"], apart := false }
def FnExactDistanceBetweenSaid : Prop := fnExactDistanceBetweenRow.holds Try.pinned (OpenSpec.ofChange fnExactDistanceBetweenSpec)

/-- ITS FALSE NEIGHBOUR: 'it returns false'. Refute it at one input. -/
def fnExactDistanceBetweenWrong : ChangeSpec := { name := "fnExactDistanceBetween", fn := fun _ => fun
  | [d1, d2] => { results := [.lit (.bool false)], args := [d1, d2] }
  | _ => none }
def FnExactDistanceBetweenWrongFalsely : Prop := fnExactDistanceBetweenRow.holds Try.pinned (OpenSpec.ofChange fnExactDistanceBetweenWrong)

/-- 'laws.FnExactPredict': WHATEVER THE INPUT: true; the input reads as it did. -/
def fnExactPredictSpec : ChangeSpec := { name := "fnExactPredict", fn := fun _ => fun
  | [d1, d2, d3] => { results := [.lit (.bool true)], args := [d1, d2, d3] }
  | _ => none }
def fnExactPredictRow : OpenClaim := { program := "ythfkcbegloccoaa", sum := "0be88df3ea654869bf5f533d2639db23e67beb8a33e3d20a512103d724f36cef", func := "loop.example/g01204/laws.FnExactPredict", spec := "fnExactPredict", inPlace := ["math.sqrt"], unfollowed := true, recurses := true, apart := false }
def FnExactPredictSaid : Prop := fnExactPredictRow.holds Try.pinned (OpenSpec.ofChange fnExactPredictSpec)

/-- ITS FALSE NEIGHBOUR: 'it returns false'. Refute it at one input. -/
def fnExactPredictWrong : ChangeSpec := { name := "fnExactPredict", fn := fun _ => fun
  | [d1, d2, d3] => { results := [.lit (.bool false)], args := [d1, d2, d3] }
  | _ => none }
def FnExactPredictWrongFalsely : Prop := fnExactPredictRow.holds Try.pinned (OpenSpec.ofChange fnExactPredictWrong)

/-- 'laws.FnExactBearingClue': WHATEVER THE INPUT: true; the input reads as it did. -/
def fnExactBearingClueSpec : ChangeSpec := { name := "fnExactBearingClue", fn := fun _ => fun
  | [d1, d2, d3, d4] => { results := [.lit (.bool true)], args := [d1, d2, d3, d4] }
  | _ => none }
def fnExactBearingClueRow : OpenClaim := { program := "ythfkcbegloccoaa", sum := "0be88df3ea654869bf5f533d2639db23e67beb8a33e3d20a512103d724f36cef", func := "loop.example/g01204/laws.FnExactBearingClue", spec := "fnExactBearingClue", inPlace := ["math.Float64frombits", "math.Float64bits", "math.sqrt", "math.RoundToEven"], apart := false }
def FnExactBearingClueSaid : Prop := fnExactBearingClueRow.holds Try.pinned (OpenSpec.ofChange fnExactBearingClueSpec)

/-- ITS FALSE NEIGHBOUR: 'it returns false'. Refute it at one input. -/
def fnExactBearingClueWrong : ChangeSpec := { name := "fnExactBearingClue", fn := fun _ => fun
  | [d1, d2, d3, d4] => { results := [.lit (.bool false)], args := [d1, d2, d3, d4] }
  | _ => none }
def FnExactBearingClueWrongFalsely : Prop := fnExactBearingClueRow.holds Try.pinned (OpenSpec.ofChange fnExactBearingClueWrong)

/-- 'laws.FnExactUpdate': WHATEVER THE INPUT: true; the input reads as it did. -/
def fnExactUpdateSpec : ChangeSpec := { name := "fnExactUpdate", fn := fun _ => fun
  | [d1, d2] => { results := [.lit (.bool true)], args := [d1, d2] }
  | _ => none }
def fnExactUpdateRow : OpenClaim := { program := "ythfkcbegloccoaa", sum := "0be88df3ea654869bf5f533d2639db23e67beb8a33e3d20a512103d724f36cef", func := "loop.example/g01204/laws.FnExactUpdate", spec := "fnExactUpdate", inPlace := ["math.sqrt"], apart := false }
def FnExactUpdateSaid : Prop := fnExactUpdateRow.holds Try.pinned (OpenSpec.ofChange fnExactUpdateSpec)

/-- ITS FALSE NEIGHBOUR: 'it returns false'. Refute it at one input. -/
def fnExactUpdateWrong : ChangeSpec := { name := "fnExactUpdate", fn := fun _ => fun
  | [d1, d2] => { results := [.lit (.bool false)], args := [d1, d2] }
  | _ => none }
def FnExactUpdateWrongFalsely : Prop := fnExactUpdateRow.holds Try.pinned (OpenSpec.ofChange fnExactUpdateWrong)

/-- 'laws.FnExactUpdateGated': WHATEVER THE INPUT: true; the input reads as it did. -/
def fnExactUpdateGatedSpec : ChangeSpec := { name := "fnExactUpdateGated", fn := fun _ => fun
  | [d1, d2, d3] => { results := [.lit (.bool true)], args := [d1, d2, d3] }
  | _ => none }
def fnExactUpdateGatedRow : OpenClaim := { program := "ythfkcbegloccoaa", sum := "0be88df3ea654869bf5f533d2639db23e67beb8a33e3d20a512103d724f36cef", func := "loop.example/g01204/laws.FnExactUpdateGated", spec := "fnExactUpdateGated", inPlace := ["math.sqrt"], apart := false }
def FnExactUpdateGatedSaid : Prop := fnExactUpdateGatedRow.holds Try.pinned (OpenSpec.ofChange fnExactUpdateGatedSpec)

/-- ITS FALSE NEIGHBOUR: 'it returns false'. Refute it at one input. -/
def fnExactUpdateGatedWrong : ChangeSpec := { name := "fnExactUpdateGated", fn := fun _ => fun
  | [d1, d2, d3] => { results := [.lit (.bool false)], args := [d1, d2, d3] }
  | _ => none }
def FnExactUpdateGatedWrongFalsely : Prop := fnExactUpdateGatedRow.holds Try.pinned (OpenSpec.ofChange fnExactUpdateGatedWrong)

/-- 'laws.FnExactUpdateAll': WHATEVER THE INPUT: true; the input reads as it did. -/
def fnExactUpdateAllSpec : ChangeSpec := { name := "fnExactUpdateAll", fn := fun _ => fun
  | [d1, d2] => { results := [.lit (.bool true)], args := [d1, d2] }
  | _ => none }
def fnExactUpdateAllRow : OpenClaim := { program := "ythfkcbegloccoaa", sum := "0be88df3ea654869bf5f533d2639db23e67beb8a33e3d20a512103d724f36cef", func := "loop.example/g01204/laws.FnExactUpdateAll", spec := "fnExactUpdateAll", inPlace := ["math.sqrt"], unfollowed := true, recurses := true, apart := false }
def FnExactUpdateAllSaid : Prop := fnExactUpdateAllRow.holds Try.pinned (OpenSpec.ofChange fnExactUpdateAllSpec)

/-- ITS FALSE NEIGHBOUR: 'it returns false'. Refute it at one input. -/
def fnExactUpdateAllWrong : ChangeSpec := { name := "fnExactUpdateAll", fn := fun _ => fun
  | [d1, d2] => { results := [.lit (.bool false)], args := [d1, d2] }
  | _ => none }
def FnExactUpdateAllWrongFalsely : Prop := fnExactUpdateAllRow.holds Try.pinned (OpenSpec.ofChange fnExactUpdateAllWrong)

/-- 'laws.FnExactFuseStates': WHATEVER THE INPUT: true; the input reads as it did. -/
def fnExactFuseStatesSpec : ChangeSpec := { name := "fnExactFuseStates", fn := fun _ => fun
  | [d1, d2] => { results := [.lit (.bool true)], args := [d1, d2] }
  | _ => none }
def fnExactFuseStatesRow : OpenClaim := { program := "ythfkcbegloccoaa", sum := "0be88df3ea654869bf5f533d2639db23e67beb8a33e3d20a512103d724f36cef", func := "loop.example/g01204/laws.FnExactFuseStates", spec := "fnExactFuseStates", inPlace := ["math.sqrt"], apart := false }
def FnExactFuseStatesSaid : Prop := fnExactFuseStatesRow.holds Try.pinned (OpenSpec.ofChange fnExactFuseStatesSpec)

/-- ITS FALSE NEIGHBOUR: 'it returns false'. Refute it at one input. -/
def fnExactFuseStatesWrong : ChangeSpec := { name := "fnExactFuseStates", fn := fun _ => fun
  | [d1, d2] => { results := [.lit (.bool false)], args := [d1, d2] }
  | _ => none }
def FnExactFuseStatesWrongFalsely : Prop := fnExactFuseStatesRow.holds Try.pinned (OpenSpec.ofChange fnExactFuseStatesWrong)

/-- 'laws.FnLearnt': WHATEVER THE INPUT: true; the input reads as it did. -/
def fnLearntSpec : ChangeSpec := { name := "fnLearnt", fn := fun _ => fun
  | [d1, d2] => { results := [.lit (.bool true)], args := [d1, d2] }
  | _ => none }
def fnLearntRow : OpenClaim := { program := "ythfkcbegloccoaa", sum := "0be88df3ea654869bf5f533d2639db23e67beb8a33e3d20a512103d724f36cef", func := "loop.example/g01204/laws.FnLearnt", spec := "fnLearnt", inPlace := ["math.Float64frombits", "math.Float32frombits", "math.sqrt", "math.Float32bits"], unfollowed := true, recurses := true, apart := false }
def FnLearntSaid : Prop := fnLearntRow.holds Try.pinned (OpenSpec.ofChange fnLearntSpec)

/-- ITS FALSE NEIGHBOUR: 'it returns false'. Refute it at one input. -/
def fnLearntWrong : ChangeSpec := { name := "fnLearnt", fn := fun _ => fun
  | [d1, d2] => { results := [.lit (.bool false)], args := [d1, d2] }
  | _ => none }
def FnLearntWrongFalsely : Prop := fnLearntRow.holds Try.pinned (OpenSpec.ofChange fnLearntWrong)

/-- 'laws.FnSeen': WHATEVER THE INPUT: true; the input reads as it did. -/
def fnSeenSpec : ChangeSpec := { name := "fnSeen", fn := fun _ => fun
  | [d1, d2] => { results := [.lit (.bool true)], args := [d1, d2] }
  | _ => none }
def fnSeenRow : OpenClaim := { program := "ythfkcbegloccoaa", sum := "0be88df3ea654869bf5f533d2639db23e67beb8a33e3d20a512103d724f36cef", func := "loop.example/g01204/laws.FnSeen", spec := "fnSeen", inPlace := ["math.sqrt", "math.Float64frombits", "math.Float64bits", "math.RoundToEven"], apart := false }
def FnSeenSaid : Prop := fnSeenRow.holds Try.pinned (OpenSpec.ofChange fnSeenSpec)

/-- ITS FALSE NEIGHBOUR: 'it returns false'. Refute it at one input. -/
def fnSeenWrong : ChangeSpec := { name := "fnSeen", fn := fun _ => fun
  | [d1, d2] => { results := [.lit (.bool false)], args := [d1, d2] }
  | _ => none }
def FnSeenWrongFalsely : Prop := fnSeenRow.holds Try.pinned (OpenSpec.ofChange fnSeenWrong)

/-- 'laws.FnRooted': WHATEVER THE INPUT: true; the input reads as it did. -/
def fnRootedSpec : ChangeSpec := { name := "fnRooted", fn := fun _ => fun
  | [d1, d2] => { results := [.lit (.bool true)], args := [d1, d2] }
  | _ => none }
def fnRootedRow : OpenClaim := { program := "ythfkcbegloccoaa", sum := "0be88df3ea654869bf5f533d2639db23e67beb8a33e3d20a512103d724f36cef", func := "loop.example/g01204/laws.FnRooted", spec := "fnRooted", inPlace := ["math.sqrt", "math.Float32bits"], apart := false }
def FnRootedSaid : Prop := fnRootedRow.holds Try.pinned (OpenSpec.ofChange fnRootedSpec)

/-- ITS FALSE NEIGHBOUR: 'it returns false'. Refute it at one input. -/
def fnRootedWrong : ChangeSpec := { name := "fnRooted", fn := fun _ => fun
  | [d1, d2] => { results := [.lit (.bool false)], args := [d1, d2] }
  | _ => none }
def FnRootedWrongFalsely : Prop := fnRootedRow.holds Try.pinned (OpenSpec.ofChange fnRootedWrong)

/- THE SECOND FORM. 'bulk': how many values and letters a reading holds, each counted each time it is reached (what is shared counts as often as it is met; a slice's spare places count too). A statement '..UptoSaid' is the law's where the arguments, and the package variables that the reading takes, are together of bulk at most 1048576: NARROWER than '..Said'. Prove '..Said' where nothing that the law and all that it calls make is longer than what came in: it says more and counts as full. Else prove '..UptoSaid'. A law counts once. -/
mutual
def uptoBulk {H : Type} : DataW H → Nat
  | .lit (.string bytes) => bytes.length + 1
  | .lit _ => 1
  | .nil => 1
  | .ptr d => uptoBulk d + 1
  | .slice elems spare => uptoBulkAll elems + uptoBulkAll spare + 1
  | .agg parts => uptoBulkAll parts + 1
  | .iface _ d => uptoBulk d + 1
  | .map entries => uptoBulkEntries entries + 1
  | .held _ => 1
def uptoBulkAll {H : Type} : List (DataW H) → Nat
  | [] => 0
  | d :: r => uptoBulk d + uptoBulkAll r
def uptoBulkEntries {H : Type} : List (Lit × DataW H) → Nat
  | [] => 0
  | x :: r => uptoBulkEntry x + uptoBulkEntries r
def uptoBulkEntry {H : Type} : Lit × DataW H → Nat
  | (.string bytes, d) => bytes.length + uptoBulk d + 1
  | (_, d) => uptoBulk d + 1
 end
def uptoSmall : (H : Type) → List (DataW H) → Bool := fun _ ds => decide (uptoBulkAll ds ≤ 1048576)
def OpenSpec.upto (s : _root_.Go.ChangeSpec) : _root_.Go.OpenSpec := { _root_.Go.OpenSpec.ofChange s with cond := some uptoSmall }

/-- 'laws.FnExactValidClue', WHERE WHAT IT READS IS OF BULK AT MOST 1048576: true; the input reads as it did. -/
def fnExactValidClueUptoRow : OpenClaim := { program := "ythfkcbegloccoaa", sum := "0be88df3ea654869bf5f533d2639db23e67beb8a33e3d20a512103d724f36cef", func := "loop.example/g01204/laws.FnExactValidClue", spec := "fnExactValidClue", apart := false, narrowed := true }
def FnExactValidClueUptoSaid : Prop := fnExactValidClueUptoRow.holds Try.pinned (OpenSpec.upto fnExactValidClueSpec)

/-- 'laws.FnExactVelocityOf', WHERE WHAT IT READS IS OF BULK AT MOST 1048576: true; the input reads as it did. -/
def fnExactVelocityOfUptoRow : OpenClaim := { program := "ythfkcbegloccoaa", sum := "0be88df3ea654869bf5f533d2639db23e67beb8a33e3d20a512103d724f36cef", func := "loop.example/g01204/laws.FnExactVelocityOf", spec := "fnExactVelocityOf", apart := false, narrowed := true }
def FnExactVelocityOfUptoSaid : Prop := fnExactVelocityOfUptoRow.holds Try.pinned (OpenSpec.upto fnExactVelocityOfSpec)

/-- 'laws.FnExactPositionOf', WHERE WHAT IT READS IS OF BULK AT MOST 1048576: true; the input reads as it did. -/
def fnExactPositionOfUptoRow : OpenClaim := { program := "ythfkcbegloccoaa", sum := "0be88df3ea654869bf5f533d2639db23e67beb8a33e3d20a512103d724f36cef", func := "loop.example/g01204/laws.FnExactPositionOf", spec := "fnExactPositionOf", apart := false, narrowed := true }
def FnExactPositionOfUptoSaid : Prop := fnExactPositionOfUptoRow.holds Try.pinned (OpenSpec.upto fnExactPositionOfSpec)

/-- 'laws.FnExactValidState', WHERE WHAT IT READS IS OF BULK AT MOST 1048576: true; the input reads as it did. -/
def fnExactValidStateUptoRow : OpenClaim := { program := "ythfkcbegloccoaa", sum := "0be88df3ea654869bf5f533d2639db23e67beb8a33e3d20a512103d724f36cef", func := "loop.example/g01204/laws.FnExactValidState", spec := "fnExactValidState", apart := false, narrowed := true }
def FnExactValidStateUptoSaid : Prop := fnExactValidStateUptoRow.holds Try.pinned (OpenSpec.upto fnExactValidStateSpec)

/-- 'laws.FnExactClueAt', WHERE WHAT IT READS IS OF BULK AT MOST 1048576: true; the input reads as it did. -/
def fnExactClueAtUptoRow : OpenClaim := { program := "ythfkcbegloccoaa", sum := "0be88df3ea654869bf5f533d2639db23e67beb8a33e3d20a512103d724f36cef", func := "loop.example/g01204/laws.FnExactClueAt", spec := "fnExactClueAt", apart := false, narrowed := true }
def FnExactClueAtUptoSaid : Prop := fnExactClueAtUptoRow.holds Try.pinned (OpenSpec.upto fnExactClueAtSpec)

/-- 'laws.FnExactSameState', WHERE WHAT IT READS IS OF BULK AT MOST 1048576: true; the input reads as it did. -/
def fnExactSameStateUptoRow : OpenClaim := { program := "ythfkcbegloccoaa", sum := "0be88df3ea654869bf5f533d2639db23e67beb8a33e3d20a512103d724f36cef", func := "loop.example/g01204/laws.FnExactSameState", spec := "fnExactSameState", inPlace := ["math.Float32bits"], unfollowed := true, recurses := true, apart := false, narrowed := true }
def FnExactSameStateUptoSaid : Prop := fnExactSameStateUptoRow.holds Try.pinned (OpenSpec.upto fnExactSameStateSpec)

/-- 'laws.FnExactStateOf', WHERE WHAT IT READS IS OF BULK AT MOST 1048576: true; the input reads as it did. -/
def fnExactStateOfUptoRow : OpenClaim := { program := "ythfkcbegloccoaa", sum := "0be88df3ea654869bf5f533d2639db23e67beb8a33e3d20a512103d724f36cef", func := "loop.example/g01204/laws.FnExactStateOf", spec := "fnExactStateOf", apart := false, narrowed := true }
def FnExactStateOfUptoSaid : Prop := fnExactStateOfUptoRow.holds Try.pinned (OpenSpec.upto fnExactStateOfSpec)

/-- 'laws.FnExactCovarianceOf', WHERE WHAT IT READS IS OF BULK AT MOST 1048576: true; the input reads as it did. -/
def fnExactCovarianceOfUptoRow : OpenClaim := { program := "ythfkcbegloccoaa", sum := "0be88df3ea654869bf5f533d2639db23e67beb8a33e3d20a512103d724f36cef", func := "loop.example/g01204/laws.FnExactCovarianceOf", spec := "fnExactCovarianceOf", apart := false, narrowed := true }
def FnExactCovarianceOfUptoSaid : Prop := fnExactCovarianceOfUptoRow.holds Try.pinned (OpenSpec.upto fnExactCovarianceOfSpec)

/-- 'laws.FnExactDifferenceOf', WHERE WHAT IT READS IS OF BULK AT MOST 1048576: true; the input reads as it did. -/
def fnExactDifferenceOfUptoRow : OpenClaim := { program := "ythfkcbegloccoaa", sum := "0be88df3ea654869bf5f533d2639db23e67beb8a33e3d20a512103d724f36cef", func := "loop.example/g01204/laws.FnExactDifferenceOf", spec := "fnExactDifferenceOf", apart := false, narrowed := true }
def FnExactDifferenceOfUptoSaid : Prop := fnExactDifferenceOfUptoRow.holds Try.pinned (OpenSpec.upto fnExactDifferenceOfSpec)

/-- 'laws.FnExactGateOf', WHERE WHAT IT READS IS OF BULK AT MOST 1048576: true; the input reads as it did. -/
def fnExactGateOfUptoRow : OpenClaim := { program := "ythfkcbegloccoaa", sum := "0be88df3ea654869bf5f533d2639db23e67beb8a33e3d20a512103d724f36cef", func := "loop.example/g01204/laws.FnExactGateOf", spec := "fnExactGateOf", apart := false, narrowed := true }
def FnExactGateOfUptoSaid : Prop := fnExactGateOfUptoRow.holds Try.pinned (OpenSpec.upto fnExactGateOfSpec)

/-- 'laws.FnExactInverseRoot', WHERE WHAT IT READS IS OF BULK AT MOST 1048576: true; the input reads as it did. -/
def fnExactInverseRootUptoRow : OpenClaim := { program := "ythfkcbegloccoaa", sum := "0be88df3ea654869bf5f533d2639db23e67beb8a33e3d20a512103d724f36cef", func := "loop.example/g01204/laws.FnExactInverseRoot", spec := "fnExactInverseRoot", apart := false, narrowed := true }
def FnExactInverseRootUptoSaid : Prop := fnExactInverseRootUptoRow.holds Try.pinned (OpenSpec.upto fnExactInverseRootSpec)

/-- 'laws.FnExactSpreadOf', WHERE WHAT IT READS IS OF BULK AT MOST 1048576: true; the input reads as it did. -/
def fnExactSpreadOfUptoRow : OpenClaim := { program := "ythfkcbegloccoaa", sum := "0be88df3ea654869bf5f533d2639db23e67beb8a33e3d20a512103d724f36cef", func := "loop.example/g01204/laws.FnExactSpreadOf", spec := "fnExactSpreadOf", inPlace := ["math.sqrt"], apart := false, narrowed := true }
def FnExactSpreadOfUptoSaid : Prop := fnExactSpreadOfUptoRow.holds Try.pinned (OpenSpec.upto fnExactSpreadOfSpec)

/-- 'laws.FnExactLowerOf', WHERE WHAT IT READS IS OF BULK AT MOST 1048576: true; the input reads as it did. -/
def fnExactLowerOfUptoRow : OpenClaim := { program := "ythfkcbegloccoaa", sum := "0be88df3ea654869bf5f533d2639db23e67beb8a33e3d20a512103d724f36cef", func := "loop.example/g01204/laws.FnExactLowerOf", spec := "fnExactLowerOf", inPlace := ["math.sqrt"], apart := false, narrowed := true }
def FnExactLowerOfUptoSaid : Prop := fnExactLowerOfUptoRow.holds Try.pinned (OpenSpec.upto fnExactLowerOfSpec)

/-- 'laws.FnExactRangeClue', WHERE WHAT IT READS IS OF BULK AT MOST 1048576: true; the input reads as it did. -/
def fnExactRangeClueUptoRow : OpenClaim := { program := "ythfkcbegloccoaa", sum := "0be88df3ea654869bf5f533d2639db23e67beb8a33e3d20a512103d724f36cef", func := "loop.example/g01204/laws.FnExactRangeClue", spec := "fnExactRangeClue", inPlace := ["math.sqrt"], apart := false, narrowed := true }
def FnExactRangeClueUptoSaid : Prop := fnExactRangeClueUptoRow.holds Try.pinned (OpenSpec.upto fnExactRangeClueSpec)

/-- 'laws.FnExactDistanceBetween', WHERE WHAT IT READS IS OF BULK AT MOST 1048576: true; the input reads as it did. -/
def fnExactDistanceBetweenUptoRow : OpenClaim := { program := "ythfkcbegloccoaa", sum := "0be88df3ea654869bf5f533d2639db23e67beb8a33e3d20a512103d724f36cef", func := "loop.example/g01204/laws.FnExactDistanceBetween", spec := "fnExactDistanceBetween", inPlace := ["math.sqrt"], apart := false, narrowed := true }
def FnExactDistanceBetweenUptoSaid : Prop := fnExactDistanceBetweenUptoRow.holds Try.pinned (OpenSpec.upto fnExactDistanceBetweenSpec)

/-- 'laws.FnExactPredict', WHERE WHAT IT READS IS OF BULK AT MOST 1048576: true; the input reads as it did. -/
def fnExactPredictUptoRow : OpenClaim := { program := "ythfkcbegloccoaa", sum := "0be88df3ea654869bf5f533d2639db23e67beb8a33e3d20a512103d724f36cef", func := "loop.example/g01204/laws.FnExactPredict", spec := "fnExactPredict", inPlace := ["math.sqrt"], unfollowed := true, recurses := true, apart := false, narrowed := true }
def FnExactPredictUptoSaid : Prop := fnExactPredictUptoRow.holds Try.pinned (OpenSpec.upto fnExactPredictSpec)

/-- 'laws.FnExactBearingClue', WHERE WHAT IT READS IS OF BULK AT MOST 1048576: true; the input reads as it did. -/
def fnExactBearingClueUptoRow : OpenClaim := { program := "ythfkcbegloccoaa", sum := "0be88df3ea654869bf5f533d2639db23e67beb8a33e3d20a512103d724f36cef", func := "loop.example/g01204/laws.FnExactBearingClue", spec := "fnExactBearingClue", inPlace := ["math.Float64frombits", "math.Float64bits", "math.sqrt", "math.RoundToEven"], apart := false, narrowed := true }
def FnExactBearingClueUptoSaid : Prop := fnExactBearingClueUptoRow.holds Try.pinned (OpenSpec.upto fnExactBearingClueSpec)

/-- 'laws.FnExactUpdate', WHERE WHAT IT READS IS OF BULK AT MOST 1048576: true; the input reads as it did. -/
def fnExactUpdateUptoRow : OpenClaim := { program := "ythfkcbegloccoaa", sum := "0be88df3ea654869bf5f533d2639db23e67beb8a33e3d20a512103d724f36cef", func := "loop.example/g01204/laws.FnExactUpdate", spec := "fnExactUpdate", inPlace := ["math.sqrt"], apart := false, narrowed := true }
def FnExactUpdateUptoSaid : Prop := fnExactUpdateUptoRow.holds Try.pinned (OpenSpec.upto fnExactUpdateSpec)

/-- 'laws.FnExactUpdateGated', WHERE WHAT IT READS IS OF BULK AT MOST 1048576: true; the input reads as it did. -/
def fnExactUpdateGatedUptoRow : OpenClaim := { program := "ythfkcbegloccoaa", sum := "0be88df3ea654869bf5f533d2639db23e67beb8a33e3d20a512103d724f36cef", func := "loop.example/g01204/laws.FnExactUpdateGated", spec := "fnExactUpdateGated", inPlace := ["math.sqrt"], apart := false, narrowed := true }
def FnExactUpdateGatedUptoSaid : Prop := fnExactUpdateGatedUptoRow.holds Try.pinned (OpenSpec.upto fnExactUpdateGatedSpec)

/-- 'laws.FnExactUpdateAll', WHERE WHAT IT READS IS OF BULK AT MOST 1048576: true; the input reads as it did. -/
def fnExactUpdateAllUptoRow : OpenClaim := { program := "ythfkcbegloccoaa", sum := "0be88df3ea654869bf5f533d2639db23e67beb8a33e3d20a512103d724f36cef", func := "loop.example/g01204/laws.FnExactUpdateAll", spec := "fnExactUpdateAll", inPlace := ["math.sqrt"], unfollowed := true, recurses := true, apart := false, narrowed := true }
def FnExactUpdateAllUptoSaid : Prop := fnExactUpdateAllUptoRow.holds Try.pinned (OpenSpec.upto fnExactUpdateAllSpec)

/-- 'laws.FnExactFuseStates', WHERE WHAT IT READS IS OF BULK AT MOST 1048576: true; the input reads as it did. -/
def fnExactFuseStatesUptoRow : OpenClaim := { program := "ythfkcbegloccoaa", sum := "0be88df3ea654869bf5f533d2639db23e67beb8a33e3d20a512103d724f36cef", func := "loop.example/g01204/laws.FnExactFuseStates", spec := "fnExactFuseStates", inPlace := ["math.sqrt"], apart := false, narrowed := true }
def FnExactFuseStatesUptoSaid : Prop := fnExactFuseStatesUptoRow.holds Try.pinned (OpenSpec.upto fnExactFuseStatesSpec)

/-- 'laws.FnLearnt', WHERE WHAT IT READS IS OF BULK AT MOST 1048576: true; the input reads as it did. -/
def fnLearntUptoRow : OpenClaim := { program := "ythfkcbegloccoaa", sum := "0be88df3ea654869bf5f533d2639db23e67beb8a33e3d20a512103d724f36cef", func := "loop.example/g01204/laws.FnLearnt", spec := "fnLearnt", inPlace := ["math.Float64frombits", "math.Float32frombits", "math.sqrt", "math.Float32bits"], unfollowed := true, recurses := true, apart := false, narrowed := true }
def FnLearntUptoSaid : Prop := fnLearntUptoRow.holds Try.pinned (OpenSpec.upto fnLearntSpec)

/-- 'laws.FnSeen', WHERE WHAT IT READS IS OF BULK AT MOST 1048576: true; the input reads as it did. -/
def fnSeenUptoRow : OpenClaim := { program := "ythfkcbegloccoaa", sum := "0be88df3ea654869bf5f533d2639db23e67beb8a33e3d20a512103d724f36cef", func := "loop.example/g01204/laws.FnSeen", spec := "fnSeen", inPlace := ["math.sqrt", "math.Float64frombits", "math.Float64bits", "math.RoundToEven"], apart := false, narrowed := true }
def FnSeenUptoSaid : Prop := fnSeenUptoRow.holds Try.pinned (OpenSpec.upto fnSeenSpec)

/-- 'laws.FnRooted', WHERE WHAT IT READS IS OF BULK AT MOST 1048576: true; the input reads as it did. -/
def fnRootedUptoRow : OpenClaim := { program := "ythfkcbegloccoaa", sum := "0be88df3ea654869bf5f533d2639db23e67beb8a33e3d20a512103d724f36cef", func := "loop.example/g01204/laws.FnRooted", spec := "fnRooted", inPlace := ["math.sqrt", "math.Float32bits"], apart := false, narrowed := true }
def FnRootedUptoSaid : Prop := fnRootedUptoRow.holds Try.pinned (OpenSpec.upto fnRootedSpec)

end Rows
end Go.Proofs.Ythfkcbegloccoaa
