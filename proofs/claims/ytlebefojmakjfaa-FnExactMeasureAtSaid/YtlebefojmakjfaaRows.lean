/-
  No cell of these rows narrows 'for every input' (looked for: loops, veiled, ifaces, maps, wideKeys, modest, calm, conditions, laid).
  DERIVED. THE GIVEN ROWS OF THIS SEAT. 19 by the template 'for every input the law returns true; each argument reads behind the call as it read before'; 0 by the template 'total and deterministic' (their statements: YtlebefojmakjfaaTotals.lean).
  GIVEN WITH THE SEED: the statements are not yours to turn. If you find one false, say at which input.
  Laid BY PROGRAM, IN A SANDBOX (cutbox-rows.mjs): the forced cells as the released guide's own fill.sh prints them over the translation 55e9b7d33524185d… (all of the seat's roots in one cut). By AI agents, Wed Nov 11 2026. No macro, syntax, notation, axiom, sorry.
-/
import Derived.Test.YtlebefojmakjfaaChecked
import GoSem.Claim
import GoSem.ClaimJoined
import GoSem.ClaimMapViews
import Derived.JoinedTies
import Derived.KernelRfl
namespace Go.Proofs.Ytlebefojmakjfaa
/- THE CELL 'sum', in the pinned program and in every row, IS THE sha256 OF THE DUMP (.gsa) THAT YtlebefojmakjfaaProg.lean LOADS. Nothing in Lean hashes anything: it is a label: what it is worth is what the hold of that sum in a sandbox is worth. -/
noncomputable def Try.pinned : Pinned := { name := "ytlebefojmakjfaa", sum := "55e9b7d33524185d16e64526af343b86cf20b9d772d01f9748cde9d372e4e346", checked := Try.checked }
namespace Rows
def none {H : Type} : Left H := { results := [], args := [] }

/-- 'laws.FnExactIsSaturated': WHATEVER THE INPUT: true; the input reads as it did. -/
def fnExactIsSaturatedSpec : ChangeSpec := { name := "fnExactIsSaturated", fn := fun _ => fun
  | [d] => { results := [.lit (.bool true)], args := [d] }
  | _ => none }
def fnExactIsSaturatedRow : OpenClaim := { program := "ytlebefojmakjfaa", sum := "55e9b7d33524185d16e64526af343b86cf20b9d772d01f9748cde9d372e4e346", func := "loop.example/g01204/laws.FnExactIsSaturated", spec := "fnExactIsSaturated", apart := false }
def FnExactIsSaturatedSaid : Prop := fnExactIsSaturatedRow.holds Try.pinned (OpenSpec.ofChange fnExactIsSaturatedSpec)

/-- ITS FALSE NEIGHBOUR: 'it returns false'. Refute it at one input. -/
def fnExactIsSaturatedWrong : ChangeSpec := { name := "fnExactIsSaturated", fn := fun _ => fun
  | [d] => { results := [.lit (.bool false)], args := [d] }
  | _ => none }
def FnExactIsSaturatedWrongFalsely : Prop := fnExactIsSaturatedRow.holds Try.pinned (OpenSpec.ofChange fnExactIsSaturatedWrong)

/-- 'laws.FnExactShakeCounts': WHATEVER THE INPUT: true; the input reads as it did. -/
def fnExactShakeCountsSpec : ChangeSpec := { name := "fnExactShakeCounts", fn := fun _ => fun
  | [d1, d2, d3] => { results := [.lit (.bool true)], args := [d1, d2, d3] }
  | _ => none }
def fnExactShakeCountsRow : OpenClaim := { program := "ytlebefojmakjfaa", sum := "55e9b7d33524185d16e64526af343b86cf20b9d772d01f9748cde9d372e4e346", func := "loop.example/g01204/laws.FnExactShakeCounts", spec := "fnExactShakeCounts", apart := false }
def FnExactShakeCountsSaid : Prop := fnExactShakeCountsRow.holds Try.pinned (OpenSpec.ofChange fnExactShakeCountsSpec)

/-- ITS FALSE NEIGHBOUR: 'it returns false'. Refute it at one input. -/
def fnExactShakeCountsWrong : ChangeSpec := { name := "fnExactShakeCounts", fn := fun _ => fun
  | [d1, d2, d3] => { results := [.lit (.bool false)], args := [d1, d2, d3] }
  | _ => none }
def FnExactShakeCountsWrongFalsely : Prop := fnExactShakeCountsRow.holds Try.pinned (OpenSpec.ofChange fnExactShakeCountsWrong)

/-- 'laws.FnExactToCount': WHATEVER THE INPUT: true; the input reads as it did. -/
def fnExactToCountSpec : ChangeSpec := { name := "fnExactToCount", fn := fun _ => fun
  | [d] => { results := [.lit (.bool true)], args := [d] }
  | _ => none }
def fnExactToCountRow : OpenClaim := { program := "ytlebefojmakjfaa", sum := "55e9b7d33524185d16e64526af343b86cf20b9d772d01f9748cde9d372e4e346", func := "loop.example/g01204/laws.FnExactToCount", spec := "fnExactToCount", inPlace := ["math.RoundToEven"], apart := false }
def FnExactToCountSaid : Prop := fnExactToCountRow.holds Try.pinned (OpenSpec.ofChange fnExactToCountSpec)

/-- ITS FALSE NEIGHBOUR: 'it returns false'. Refute it at one input. -/
def fnExactToCountWrong : ChangeSpec := { name := "fnExactToCount", fn := fun _ => fun
  | [d] => { results := [.lit (.bool false)], args := [d] }
  | _ => none }
def FnExactToCountWrongFalsely : Prop := fnExactToCountRow.holds Try.pinned (OpenSpec.ofChange fnExactToCountWrong)

/-- 'laws.FnExactValidSensor': WHATEVER THE INPUT: true; the input reads as it did. -/
def fnExactValidSensorSpec : ChangeSpec := { name := "fnExactValidSensor", fn := fun _ => fun
  | [d] => { results := [.lit (.bool true)], args := [d] }
  | _ => none }
def fnExactValidSensorRow : OpenClaim := { program := "ytlebefojmakjfaa", sum := "55e9b7d33524185d16e64526af343b86cf20b9d772d01f9748cde9d372e4e346", func := "loop.example/g01204/laws.FnExactValidSensor", spec := "fnExactValidSensor", apart := false }
def FnExactValidSensorSaid : Prop := fnExactValidSensorRow.holds Try.pinned (OpenSpec.ofChange fnExactValidSensorSpec)

/-- ITS FALSE NEIGHBOUR: 'it returns false'. Refute it at one input. -/
def fnExactValidSensorWrong : ChangeSpec := { name := "fnExactValidSensor", fn := fun _ => fun
  | [d] => { results := [.lit (.bool false)], args := [d] }
  | _ => none }
def FnExactValidSensorWrongFalsely : Prop := fnExactValidSensorRow.holds Try.pinned (OpenSpec.ofChange fnExactValidSensorWrong)

/-- 'laws.FnExactValidFeed': WHATEVER THE INPUT: true; the input reads as it did. -/
def fnExactValidFeedSpec : ChangeSpec := { name := "fnExactValidFeed", fn := fun _ => fun
  | [d] => { results := [.lit (.bool true)], args := [d] }
  | _ => none }
def fnExactValidFeedRow : OpenClaim := { program := "ytlebefojmakjfaa", sum := "55e9b7d33524185d16e64526af343b86cf20b9d772d01f9748cde9d372e4e346", func := "loop.example/g01204/laws.FnExactValidFeed", spec := "fnExactValidFeed", apart := false }
def FnExactValidFeedSaid : Prop := fnExactValidFeedRow.holds Try.pinned (OpenSpec.ofChange fnExactValidFeedSpec)

/-- ITS FALSE NEIGHBOUR: 'it returns false'. Refute it at one input. -/
def fnExactValidFeedWrong : ChangeSpec := { name := "fnExactValidFeed", fn := fun _ => fun
  | [d] => { results := [.lit (.bool false)], args := [d] }
  | _ => none }
def FnExactValidFeedWrongFalsely : Prop := fnExactValidFeedRow.holds Try.pinned (OpenSpec.ofChange fnExactValidFeedWrong)

/-- 'laws.FnExactValidCurve': WHATEVER THE INPUT: true; the input reads as it did. -/
def fnExactValidCurveSpec : ChangeSpec := { name := "fnExactValidCurve", fn := fun _ => fun
  | [d] => { results := [.lit (.bool true)], args := [d] }
  | _ => none }
def fnExactValidCurveRow : OpenClaim := { program := "ytlebefojmakjfaa", sum := "55e9b7d33524185d16e64526af343b86cf20b9d772d01f9748cde9d372e4e346", func := "loop.example/g01204/laws.FnExactValidCurve", spec := "fnExactValidCurve", apart := false }
def FnExactValidCurveSaid : Prop := fnExactValidCurveRow.holds Try.pinned (OpenSpec.ofChange fnExactValidCurveSpec)

/-- ITS FALSE NEIGHBOUR: 'it returns false'. Refute it at one input. -/
def fnExactValidCurveWrong : ChangeSpec := { name := "fnExactValidCurve", fn := fun _ => fun
  | [d] => { results := [.lit (.bool false)], args := [d] }
  | _ => none }
def FnExactValidCurveWrongFalsely : Prop := fnExactValidCurveRow.holds Try.pinned (OpenSpec.ofChange fnExactValidCurveWrong)

/-- 'laws.FnExactVecOfCounts': WHATEVER THE INPUT: true; the input reads as it did. -/
def fnExactVecOfCountsSpec : ChangeSpec := { name := "fnExactVecOfCounts", fn := fun _ => fun
  | [d1, d2] => { results := [.lit (.bool true)], args := [d1, d2] }
  | _ => none }
def fnExactVecOfCountsRow : OpenClaim := { program := "ytlebefojmakjfaa", sum := "55e9b7d33524185d16e64526af343b86cf20b9d772d01f9748cde9d372e4e346", func := "loop.example/g01204/laws.FnExactVecOfCounts", spec := "fnExactVecOfCounts", apart := false }
def FnExactVecOfCountsSaid : Prop := fnExactVecOfCountsRow.holds Try.pinned (OpenSpec.ofChange fnExactVecOfCountsSpec)

/-- ITS FALSE NEIGHBOUR: 'it returns false'. Refute it at one input. -/
def fnExactVecOfCountsWrong : ChangeSpec := { name := "fnExactVecOfCounts", fn := fun _ => fun
  | [d1, d2] => { results := [.lit (.bool false)], args := [d1, d2] }
  | _ => none }
def FnExactVecOfCountsWrongFalsely : Prop := fnExactVecOfCountsRow.holds Try.pinned (OpenSpec.ofChange fnExactVecOfCountsWrong)

/-- 'laws.FnExactTimesBetween': WHATEVER THE INPUT: true; the input reads as it did. -/
def fnExactTimesBetweenSpec : ChangeSpec := { name := "fnExactTimesBetween", fn := fun _ => fun
  | [d1, d2, d3] => { results := [.lit (.bool true)], args := [d1, d2, d3] }
  | _ => none }
def fnExactTimesBetweenRow : OpenClaim := { program := "ytlebefojmakjfaa", sum := "55e9b7d33524185d16e64526af343b86cf20b9d772d01f9748cde9d372e4e346", func := "loop.example/g01204/laws.FnExactTimesBetween", spec := "fnExactTimesBetween", apart := false }
def FnExactTimesBetweenSaid : Prop := fnExactTimesBetweenRow.holds Try.pinned (OpenSpec.ofChange fnExactTimesBetweenSpec)

/-- ITS FALSE NEIGHBOUR: 'it returns false'. Refute it at one input. -/
def fnExactTimesBetweenWrong : ChangeSpec := { name := "fnExactTimesBetween", fn := fun _ => fun
  | [d1, d2, d3] => { results := [.lit (.bool false)], args := [d1, d2, d3] }
  | _ => none }
def FnExactTimesBetweenWrongFalsely : Prop := fnExactTimesBetweenRow.holds Try.pinned (OpenSpec.ofChange fnExactTimesBetweenWrong)

/-- 'laws.FnExactDropReadings': WHATEVER THE INPUT: true; the input reads as it did. -/
def fnExactDropReadingsSpec : ChangeSpec := { name := "fnExactDropReadings", fn := fun _ => fun
  | [d1, d2] => { results := [.lit (.bool true)], args := [d1, d2] }
  | _ => none }
def fnExactDropReadingsRow : OpenClaim := { program := "ytlebefojmakjfaa", sum := "55e9b7d33524185d16e64526af343b86cf20b9d772d01f9748cde9d372e4e346", func := "loop.example/g01204/laws.FnExactDropReadings", spec := "fnExactDropReadings", apart := false }
def FnExactDropReadingsSaid : Prop := fnExactDropReadingsRow.holds Try.pinned (OpenSpec.ofChange fnExactDropReadingsSpec)

/-- ITS FALSE NEIGHBOUR: 'it returns false'. Refute it at one input. -/
def fnExactDropReadingsWrong : ChangeSpec := { name := "fnExactDropReadings", fn := fun _ => fun
  | [d1, d2] => { results := [.lit (.bool false)], args := [d1, d2] }
  | _ => none }
def FnExactDropReadingsWrongFalsely : Prop := fnExactDropReadingsRow.holds Try.pinned (OpenSpec.ofChange fnExactDropReadingsWrong)

/-- 'laws.FnExactCorrectBy': WHATEVER THE INPUT: true; the input reads as it did. -/
def fnExactCorrectBySpec : ChangeSpec := { name := "fnExactCorrectBy", fn := fun _ => fun
  | [d1, d2] => { results := [.lit (.bool true)], args := [d1, d2] }
  | _ => none }
def fnExactCorrectByRow : OpenClaim := { program := "ytlebefojmakjfaa", sum := "55e9b7d33524185d16e64526af343b86cf20b9d772d01f9748cde9d372e4e346", func := "loop.example/g01204/laws.FnExactCorrectBy", spec := "fnExactCorrectBy", apart := false }
def FnExactCorrectBySaid : Prop := fnExactCorrectByRow.holds Try.pinned (OpenSpec.ofChange fnExactCorrectBySpec)

/-- ITS FALSE NEIGHBOUR: 'it returns false'. Refute it at one input. -/
def fnExactCorrectByWrong : ChangeSpec := { name := "fnExactCorrectBy", fn := fun _ => fun
  | [d1, d2] => { results := [.lit (.bool false)], args := [d1, d2] }
  | _ => none }
def FnExactCorrectByWrongFalsely : Prop := fnExactCorrectByRow.holds Try.pinned (OpenSpec.ofChange fnExactCorrectByWrong)

/-- 'laws.FnExactCountsOf': WHATEVER THE INPUT: true; the input reads as it did. -/
def fnExactCountsOfSpec : ChangeSpec := { name := "fnExactCountsOf", fn := fun _ => fun
  | [d1, d2] => { results := [.lit (.bool true)], args := [d1, d2] }
  | _ => none }
def fnExactCountsOfRow : OpenClaim := { program := "ytlebefojmakjfaa", sum := "55e9b7d33524185d16e64526af343b86cf20b9d772d01f9748cde9d372e4e346", func := "loop.example/g01204/laws.FnExactCountsOf", spec := "fnExactCountsOf", inPlace := ["math.RoundToEven"], apart := false }
def FnExactCountsOfSaid : Prop := fnExactCountsOfRow.holds Try.pinned (OpenSpec.ofChange fnExactCountsOfSpec)

/-- ITS FALSE NEIGHBOUR: 'it returns false'. Refute it at one input. -/
def fnExactCountsOfWrong : ChangeSpec := { name := "fnExactCountsOf", fn := fun _ => fun
  | [d1, d2] => { results := [.lit (.bool false)], args := [d1, d2] }
  | _ => none }
def FnExactCountsOfWrongFalsely : Prop := fnExactCountsOfRow.holds Try.pinned (OpenSpec.ofChange fnExactCountsOfWrong)

/-- 'laws.FnExactFitCurveLine': WHATEVER THE INPUT: true; the input reads as it did. -/
def fnExactFitCurveLineSpec : ChangeSpec := { name := "fnExactFitCurveLine", fn := fun _ => fun
  | [d] => { results := [.lit (.bool true)], args := [d] }
  | _ => none }
def fnExactFitCurveLineRow : OpenClaim := { program := "ytlebefojmakjfaa", sum := "55e9b7d33524185d16e64526af343b86cf20b9d772d01f9748cde9d372e4e346", func := "loop.example/g01204/laws.FnExactFitCurveLine", spec := "fnExactFitCurveLine", apart := false }
def FnExactFitCurveLineSaid : Prop := fnExactFitCurveLineRow.holds Try.pinned (OpenSpec.ofChange fnExactFitCurveLineSpec)

/-- ITS FALSE NEIGHBOUR: 'it returns false'. Refute it at one input. -/
def fnExactFitCurveLineWrong : ChangeSpec := { name := "fnExactFitCurveLine", fn := fun _ => fun
  | [d] => { results := [.lit (.bool false)], args := [d] }
  | _ => none }
def FnExactFitCurveLineWrongFalsely : Prop := fnExactFitCurveLineRow.holds Try.pinned (OpenSpec.ofChange fnExactFitCurveLineWrong)

/-- 'laws.FnExactMeasureAt': WHATEVER THE INPUT: true; the input reads as it did. -/
def fnExactMeasureAtSpec : ChangeSpec := { name := "fnExactMeasureAt", fn := fun _ => fun
  | [d1, d2, d3] => { results := [.lit (.bool true)], args := [d1, d2, d3] }
  | _ => none }
def fnExactMeasureAtRow : OpenClaim := { program := "ytlebefojmakjfaa", sum := "55e9b7d33524185d16e64526af343b86cf20b9d772d01f9748cde9d372e4e346", func := "loop.example/g01204/laws.FnExactMeasureAt", spec := "fnExactMeasureAt", inPlace := ["math.RoundToEven"], apart := false }
def FnExactMeasureAtSaid : Prop := fnExactMeasureAtRow.holds Try.pinned (OpenSpec.ofChange fnExactMeasureAtSpec)

/-- ITS FALSE NEIGHBOUR: 'it returns false'. Refute it at one input. -/
def fnExactMeasureAtWrong : ChangeSpec := { name := "fnExactMeasureAt", fn := fun _ => fun
  | [d1, d2, d3] => { results := [.lit (.bool false)], args := [d1, d2, d3] }
  | _ => none }
def FnExactMeasureAtWrongFalsely : Prop := fnExactMeasureAtRow.holds Try.pinned (OpenSpec.ofChange fnExactMeasureAtWrong)

/-- 'laws.FnExactPacketOf': WHATEVER THE INPUT: true; the input reads as it did. -/
def fnExactPacketOfSpec : ChangeSpec := { name := "fnExactPacketOf", fn := fun _ => fun
  | [d] => { results := [.lit (.bool true)], args := [d] }
  | _ => none }
def fnExactPacketOfRow : OpenClaim := { program := "ytlebefojmakjfaa", sum := "55e9b7d33524185d16e64526af343b86cf20b9d772d01f9748cde9d372e4e346", func := "loop.example/g01204/laws.FnExactPacketOf", spec := "fnExactPacketOf", apart := false }
def FnExactPacketOfSaid : Prop := fnExactPacketOfRow.holds Try.pinned (OpenSpec.ofChange fnExactPacketOfSpec)

/-- ITS FALSE NEIGHBOUR: 'it returns false'. Refute it at one input. -/
def fnExactPacketOfWrong : ChangeSpec := { name := "fnExactPacketOf", fn := fun _ => fun
  | [d] => { results := [.lit (.bool false)], args := [d] }
  | _ => none }
def FnExactPacketOfWrongFalsely : Prop := fnExactPacketOfRow.holds Try.pinned (OpenSpec.ofChange fnExactPacketOfWrong)

/-- 'laws.FnExactMeanOfFeed': WHATEVER THE INPUT: true; the input reads as it did. -/
def fnExactMeanOfFeedSpec : ChangeSpec := { name := "fnExactMeanOfFeed", fn := fun _ => fun
  | [d1, d2] => { results := [.lit (.bool true)], args := [d1, d2] }
  | _ => none }
def fnExactMeanOfFeedRow : OpenClaim := { program := "ytlebefojmakjfaa", sum := "55e9b7d33524185d16e64526af343b86cf20b9d772d01f9748cde9d372e4e346", func := "loop.example/g01204/laws.FnExactMeanOfFeed", spec := "fnExactMeanOfFeed", apart := false }
def FnExactMeanOfFeedSaid : Prop := fnExactMeanOfFeedRow.holds Try.pinned (OpenSpec.ofChange fnExactMeanOfFeedSpec)

/-- ITS FALSE NEIGHBOUR: 'it returns false'. Refute it at one input. -/
def fnExactMeanOfFeedWrong : ChangeSpec := { name := "fnExactMeanOfFeed", fn := fun _ => fun
  | [d1, d2] => { results := [.lit (.bool false)], args := [d1, d2] }
  | _ => none }
def FnExactMeanOfFeedWrongFalsely : Prop := fnExactMeanOfFeedRow.holds Try.pinned (OpenSpec.ofChange fnExactMeanOfFeedWrong)

/-- 'laws.FnExactArrivedBy': WHATEVER THE INPUT: true; the input reads as it did. -/
def fnExactArrivedBySpec : ChangeSpec := { name := "fnExactArrivedBy", fn := fun _ => fun
  | [d1, d2, d3] => { results := [.lit (.bool true)], args := [d1, d2, d3] }
  | _ => none }
def fnExactArrivedByRow : OpenClaim := { program := "ytlebefojmakjfaa", sum := "55e9b7d33524185d16e64526af343b86cf20b9d772d01f9748cde9d372e4e346", func := "loop.example/g01204/laws.FnExactArrivedBy", spec := "fnExactArrivedBy", unfollowed := true, recurses := true, apart := false }
def FnExactArrivedBySaid : Prop := fnExactArrivedByRow.holds Try.pinned (OpenSpec.ofChange fnExactArrivedBySpec)

/-- ITS FALSE NEIGHBOUR: 'it returns false'. Refute it at one input. -/
def fnExactArrivedByWrong : ChangeSpec := { name := "fnExactArrivedBy", fn := fun _ => fun
  | [d1, d2, d3] => { results := [.lit (.bool false)], args := [d1, d2, d3] }
  | _ => none }
def FnExactArrivedByWrongFalsely : Prop := fnExactArrivedByRow.holds Try.pinned (OpenSpec.ofChange fnExactArrivedByWrong)

/-- 'laws.FnExactValueAt': WHATEVER THE INPUT: true; the input reads as it did. -/
def fnExactValueAtSpec : ChangeSpec := { name := "fnExactValueAt", fn := fun _ => fun
  | [d1, d2, d3] => { results := [.lit (.bool true)], args := [d1, d2, d3] }
  | _ => none }
def fnExactValueAtRow : OpenClaim := { program := "ytlebefojmakjfaa", sum := "55e9b7d33524185d16e64526af343b86cf20b9d772d01f9748cde9d372e4e346", func := "loop.example/g01204/laws.FnExactValueAt", spec := "fnExactValueAt", unfollowed := true, recurses := true, apart := false }
def FnExactValueAtSaid : Prop := fnExactValueAtRow.holds Try.pinned (OpenSpec.ofChange fnExactValueAtSpec)

/-- ITS FALSE NEIGHBOUR: 'it returns false'. Refute it at one input. -/
def fnExactValueAtWrong : ChangeSpec := { name := "fnExactValueAt", fn := fun _ => fun
  | [d1, d2, d3] => { results := [.lit (.bool false)], args := [d1, d2, d3] }
  | _ => none }
def FnExactValueAtWrongFalsely : Prop := fnExactValueAtRow.holds Try.pinned (OpenSpec.ofChange fnExactValueAtWrong)

/-- 'laws.FnCurves': WHATEVER THE INPUT: true; the input reads as it did. -/
def fnCurvesSpec : ChangeSpec := { name := "fnCurves", fn := fun _ => fun
  | [d1, d2] => { results := [.lit (.bool true)], args := [d1, d2] }
  | _ => none }
def fnCurvesRow : OpenClaim := { program := "ytlebefojmakjfaa", sum := "55e9b7d33524185d16e64526af343b86cf20b9d772d01f9748cde9d372e4e346", func := "loop.example/g01204/laws.FnCurves", spec := "fnCurves", inPlace := ["math.Float32bits", "math.Float32frombits"], apart := false }
def FnCurvesSaid : Prop := fnCurvesRow.holds Try.pinned (OpenSpec.ofChange fnCurvesSpec)

/-- ITS FALSE NEIGHBOUR: 'it returns false'. Refute it at one input. -/
def fnCurvesWrong : ChangeSpec := { name := "fnCurves", fn := fun _ => fun
  | [d1, d2] => { results := [.lit (.bool false)], args := [d1, d2] }
  | _ => none }
def FnCurvesWrongFalsely : Prop := fnCurvesRow.holds Try.pinned (OpenSpec.ofChange fnCurvesWrong)

/-- 'laws.FnCounts': WHATEVER THE INPUT: true; the input reads as it did. -/
def fnCountsSpec : ChangeSpec := { name := "fnCounts", fn := fun _ => fun
  | [d1, d2] => { results := [.lit (.bool true)], args := [d1, d2] }
  | _ => none }
def fnCountsRow : OpenClaim := { program := "ytlebefojmakjfaa", sum := "55e9b7d33524185d16e64526af343b86cf20b9d772d01f9748cde9d372e4e346", func := "loop.example/g01204/laws.FnCounts", spec := "fnCounts", inPlace := ["math.RoundToEven", "math.Float32bits", "math.Float32frombits"], apart := false }
def FnCountsSaid : Prop := fnCountsRow.holds Try.pinned (OpenSpec.ofChange fnCountsSpec)

/-- ITS FALSE NEIGHBOUR: 'it returns false'. Refute it at one input. -/
def fnCountsWrong : ChangeSpec := { name := "fnCounts", fn := fun _ => fun
  | [d1, d2] => { results := [.lit (.bool false)], args := [d1, d2] }
  | _ => none }
def FnCountsWrongFalsely : Prop := fnCountsRow.holds Try.pinned (OpenSpec.ofChange fnCountsWrong)

/- THE SECOND FORM. 'bulk': how many values and letters a reading holds, each counted each time it is reached (what is shared counts as often as it is met; a slice's spare places count too). A statement '..UptoSaid' is the law's where the arguments, and the package variables that the reading takes, are together of bulk at most 1048576: NARROWER than '..Said'. Prove '..Said' where nothing that the law and all that it calls make is longer than what came in: it says more and counts as full. Else prove '..UptoSaid'. A law counts once. -/
mutual
def uptoBulk {H : Type} : DataW H → Nat
  | .lit (.string bytes) => bytes.length + 1
  | .lit _ => 1
  | .nil => 1
  | .ptr d => uptoBulk d + 1
  | .slice elems spare => uptoBulkAll elems + uptoBulkAll spare + 1
  | .agg parts => uptoBulkAll parts + 1
  | .iface _ d => uptoBulk d + 1
  | .map entries => uptoBulkEntries entries + 1
  | .held _ => 1
def uptoBulkAll {H : Type} : List (DataW H) → Nat
  | [] => 0
  | d :: r => uptoBulk d + uptoBulkAll r
def uptoBulkEntries {H : Type} : List (Lit × DataW H) → Nat
  | [] => 0
  | x :: r => uptoBulkEntry x + uptoBulkEntries r
def uptoBulkEntry {H : Type} : Lit × DataW H → Nat
  | (.string bytes, d) => bytes.length + uptoBulk d + 1
  | (_, d) => uptoBulk d + 1
 end
def uptoSmall : (H : Type) → List (DataW H) → Bool := fun _ ds => decide (uptoBulkAll ds ≤ 1048576)
def OpenSpec.upto (s : _root_.Go.ChangeSpec) : _root_.Go.OpenSpec := { _root_.Go.OpenSpec.ofChange s with cond := some uptoSmall }

/-- 'laws.FnExactIsSaturated', WHERE WHAT IT READS IS OF BULK AT MOST 1048576: true; the input reads as it did. -/
def fnExactIsSaturatedUptoRow : OpenClaim := { program := "ytlebefojmakjfaa", sum := "55e9b7d33524185d16e64526af343b86cf20b9d772d01f9748cde9d372e4e346", func := "loop.example/g01204/laws.FnExactIsSaturated", spec := "fnExactIsSaturated", apart := false, narrowed := true }
def FnExactIsSaturatedUptoSaid : Prop := fnExactIsSaturatedUptoRow.holds Try.pinned (OpenSpec.upto fnExactIsSaturatedSpec)

/-- 'laws.FnExactShakeCounts', WHERE WHAT IT READS IS OF BULK AT MOST 1048576: true; the input reads as it did. -/
def fnExactShakeCountsUptoRow : OpenClaim := { program := "ytlebefojmakjfaa", sum := "55e9b7d33524185d16e64526af343b86cf20b9d772d01f9748cde9d372e4e346", func := "loop.example/g01204/laws.FnExactShakeCounts", spec := "fnExactShakeCounts", apart := false, narrowed := true }
def FnExactShakeCountsUptoSaid : Prop := fnExactShakeCountsUptoRow.holds Try.pinned (OpenSpec.upto fnExactShakeCountsSpec)

/-- 'laws.FnExactToCount', WHERE WHAT IT READS IS OF BULK AT MOST 1048576: true; the input reads as it did. -/
def fnExactToCountUptoRow : OpenClaim := { program := "ytlebefojmakjfaa", sum := "55e9b7d33524185d16e64526af343b86cf20b9d772d01f9748cde9d372e4e346", func := "loop.example/g01204/laws.FnExactToCount", spec := "fnExactToCount", inPlace := ["math.RoundToEven"], apart := false, narrowed := true }
def FnExactToCountUptoSaid : Prop := fnExactToCountUptoRow.holds Try.pinned (OpenSpec.upto fnExactToCountSpec)

/-- 'laws.FnExactValidSensor', WHERE WHAT IT READS IS OF BULK AT MOST 1048576: true; the input reads as it did. -/
def fnExactValidSensorUptoRow : OpenClaim := { program := "ytlebefojmakjfaa", sum := "55e9b7d33524185d16e64526af343b86cf20b9d772d01f9748cde9d372e4e346", func := "loop.example/g01204/laws.FnExactValidSensor", spec := "fnExactValidSensor", apart := false, narrowed := true }
def FnExactValidSensorUptoSaid : Prop := fnExactValidSensorUptoRow.holds Try.pinned (OpenSpec.upto fnExactValidSensorSpec)

/-- 'laws.FnExactValidFeed', WHERE WHAT IT READS IS OF BULK AT MOST 1048576: true; the input reads as it did. -/
def fnExactValidFeedUptoRow : OpenClaim := { program := "ytlebefojmakjfaa", sum := "55e9b7d33524185d16e64526af343b86cf20b9d772d01f9748cde9d372e4e346", func := "loop.example/g01204/laws.FnExactValidFeed", spec := "fnExactValidFeed", apart := false, narrowed := true }
def FnExactValidFeedUptoSaid : Prop := fnExactValidFeedUptoRow.holds Try.pinned (OpenSpec.upto fnExactValidFeedSpec)

/-- 'laws.FnExactValidCurve', WHERE WHAT IT READS IS OF BULK AT MOST 1048576: true; the input reads as it did. -/
def fnExactValidCurveUptoRow : OpenClaim := { program := "ytlebefojmakjfaa", sum := "55e9b7d33524185d16e64526af343b86cf20b9d772d01f9748cde9d372e4e346", func := "loop.example/g01204/laws.FnExactValidCurve", spec := "fnExactValidCurve", apart := false, narrowed := true }
def FnExactValidCurveUptoSaid : Prop := fnExactValidCurveUptoRow.holds Try.pinned (OpenSpec.upto fnExactValidCurveSpec)

/-- 'laws.FnExactVecOfCounts', WHERE WHAT IT READS IS OF BULK AT MOST 1048576: true; the input reads as it did. -/
def fnExactVecOfCountsUptoRow : OpenClaim := { program := "ytlebefojmakjfaa", sum := "55e9b7d33524185d16e64526af343b86cf20b9d772d01f9748cde9d372e4e346", func := "loop.example/g01204/laws.FnExactVecOfCounts", spec := "fnExactVecOfCounts", apart := false, narrowed := true }
def FnExactVecOfCountsUptoSaid : Prop := fnExactVecOfCountsUptoRow.holds Try.pinned (OpenSpec.upto fnExactVecOfCountsSpec)

/-- 'laws.FnExactTimesBetween', WHERE WHAT IT READS IS OF BULK AT MOST 1048576: true; the input reads as it did. -/
def fnExactTimesBetweenUptoRow : OpenClaim := { program := "ytlebefojmakjfaa", sum := "55e9b7d33524185d16e64526af343b86cf20b9d772d01f9748cde9d372e4e346", func := "loop.example/g01204/laws.FnExactTimesBetween", spec := "fnExactTimesBetween", apart := false, narrowed := true }
def FnExactTimesBetweenUptoSaid : Prop := fnExactTimesBetweenUptoRow.holds Try.pinned (OpenSpec.upto fnExactTimesBetweenSpec)

/-- 'laws.FnExactDropReadings', WHERE WHAT IT READS IS OF BULK AT MOST 1048576: true; the input reads as it did. -/
def fnExactDropReadingsUptoRow : OpenClaim := { program := "ytlebefojmakjfaa", sum := "55e9b7d33524185d16e64526af343b86cf20b9d772d01f9748cde9d372e4e346", func := "loop.example/g01204/laws.FnExactDropReadings", spec := "fnExactDropReadings", apart := false, narrowed := true }
def FnExactDropReadingsUptoSaid : Prop := fnExactDropReadingsUptoRow.holds Try.pinned (OpenSpec.upto fnExactDropReadingsSpec)

/-- 'laws.FnExactCorrectBy', WHERE WHAT IT READS IS OF BULK AT MOST 1048576: true; the input reads as it did. -/
def fnExactCorrectByUptoRow : OpenClaim := { program := "ytlebefojmakjfaa", sum := "55e9b7d33524185d16e64526af343b86cf20b9d772d01f9748cde9d372e4e346", func := "loop.example/g01204/laws.FnExactCorrectBy", spec := "fnExactCorrectBy", apart := false, narrowed := true }
def FnExactCorrectByUptoSaid : Prop := fnExactCorrectByUptoRow.holds Try.pinned (OpenSpec.upto fnExactCorrectBySpec)

/-- 'laws.FnExactCountsOf', WHERE WHAT IT READS IS OF BULK AT MOST 1048576: true; the input reads as it did. -/
def fnExactCountsOfUptoRow : OpenClaim := { program := "ytlebefojmakjfaa", sum := "55e9b7d33524185d16e64526af343b86cf20b9d772d01f9748cde9d372e4e346", func := "loop.example/g01204/laws.FnExactCountsOf", spec := "fnExactCountsOf", inPlace := ["math.RoundToEven"], apart := false, narrowed := true }
def FnExactCountsOfUptoSaid : Prop := fnExactCountsOfUptoRow.holds Try.pinned (OpenSpec.upto fnExactCountsOfSpec)

/-- 'laws.FnExactFitCurveLine', WHERE WHAT IT READS IS OF BULK AT MOST 1048576: true; the input reads as it did. -/
def fnExactFitCurveLineUptoRow : OpenClaim := { program := "ytlebefojmakjfaa", sum := "55e9b7d33524185d16e64526af343b86cf20b9d772d01f9748cde9d372e4e346", func := "loop.example/g01204/laws.FnExactFitCurveLine", spec := "fnExactFitCurveLine", apart := false, narrowed := true }
def FnExactFitCurveLineUptoSaid : Prop := fnExactFitCurveLineUptoRow.holds Try.pinned (OpenSpec.upto fnExactFitCurveLineSpec)

/-- 'laws.FnExactMeasureAt', WHERE WHAT IT READS IS OF BULK AT MOST 1048576: true; the input reads as it did. -/
def fnExactMeasureAtUptoRow : OpenClaim := { program := "ytlebefojmakjfaa", sum := "55e9b7d33524185d16e64526af343b86cf20b9d772d01f9748cde9d372e4e346", func := "loop.example/g01204/laws.FnExactMeasureAt", spec := "fnExactMeasureAt", inPlace := ["math.RoundToEven"], apart := false, narrowed := true }
def FnExactMeasureAtUptoSaid : Prop := fnExactMeasureAtUptoRow.holds Try.pinned (OpenSpec.upto fnExactMeasureAtSpec)

/-- 'laws.FnExactPacketOf', WHERE WHAT IT READS IS OF BULK AT MOST 1048576: true; the input reads as it did. -/
def fnExactPacketOfUptoRow : OpenClaim := { program := "ytlebefojmakjfaa", sum := "55e9b7d33524185d16e64526af343b86cf20b9d772d01f9748cde9d372e4e346", func := "loop.example/g01204/laws.FnExactPacketOf", spec := "fnExactPacketOf", apart := false, narrowed := true }
def FnExactPacketOfUptoSaid : Prop := fnExactPacketOfUptoRow.holds Try.pinned (OpenSpec.upto fnExactPacketOfSpec)

/-- 'laws.FnExactMeanOfFeed', WHERE WHAT IT READS IS OF BULK AT MOST 1048576: true; the input reads as it did. -/
def fnExactMeanOfFeedUptoRow : OpenClaim := { program := "ytlebefojmakjfaa", sum := "55e9b7d33524185d16e64526af343b86cf20b9d772d01f9748cde9d372e4e346", func := "loop.example/g01204/laws.FnExactMeanOfFeed", spec := "fnExactMeanOfFeed", apart := false, narrowed := true }
def FnExactMeanOfFeedUptoSaid : Prop := fnExactMeanOfFeedUptoRow.holds Try.pinned (OpenSpec.upto fnExactMeanOfFeedSpec)

/-- 'laws.FnExactArrivedBy', WHERE WHAT IT READS IS OF BULK AT MOST 1048576: true; the input reads as it did. -/
def fnExactArrivedByUptoRow : OpenClaim := { program := "ytlebefojmakjfaa", sum := "55e9b7d33524185d16e64526af343b86cf20b9d772d01f9748cde9d372e4e346", func := "loop.example/g01204/laws.FnExactArrivedBy", spec := "fnExactArrivedBy", unfollowed := true, recurses := true, apart := false, narrowed := true }
def FnExactArrivedByUptoSaid : Prop := fnExactArrivedByUptoRow.holds Try.pinned (OpenSpec.upto fnExactArrivedBySpec)

/-- 'laws.FnExactValueAt', WHERE WHAT IT READS IS OF BULK AT MOST 1048576: true; the input reads as it did. -/
def fnExactValueAtUptoRow : OpenClaim := { program := "ytlebefojmakjfaa", sum := "55e9b7d33524185d16e64526af343b86cf20b9d772d01f9748cde9d372e4e346", func := "loop.example/g01204/laws.FnExactValueAt", spec := "fnExactValueAt", unfollowed := true, recurses := true, apart := false, narrowed := true }
def FnExactValueAtUptoSaid : Prop := fnExactValueAtUptoRow.holds Try.pinned (OpenSpec.upto fnExactValueAtSpec)

/-- 'laws.FnCurves', WHERE WHAT IT READS IS OF BULK AT MOST 1048576: true; the input reads as it did. -/
def fnCurvesUptoRow : OpenClaim := { program := "ytlebefojmakjfaa", sum := "55e9b7d33524185d16e64526af343b86cf20b9d772d01f9748cde9d372e4e346", func := "loop.example/g01204/laws.FnCurves", spec := "fnCurves", inPlace := ["math.Float32bits", "math.Float32frombits"], apart := false, narrowed := true }
def FnCurvesUptoSaid : Prop := fnCurvesUptoRow.holds Try.pinned (OpenSpec.upto fnCurvesSpec)

/-- 'laws.FnCounts', WHERE WHAT IT READS IS OF BULK AT MOST 1048576: true; the input reads as it did. -/
def fnCountsUptoRow : OpenClaim := { program := "ytlebefojmakjfaa", sum := "55e9b7d33524185d16e64526af343b86cf20b9d772d01f9748cde9d372e4e346", func := "loop.example/g01204/laws.FnCounts", spec := "fnCounts", inPlace := ["math.RoundToEven", "math.Float32bits", "math.Float32frombits"], apart := false, narrowed := true }
def FnCountsUptoSaid : Prop := fnCountsUptoRow.holds Try.pinned (OpenSpec.upto fnCountsSpec)

end Rows
end Go.Proofs.Ytlebefojmakjfaa
