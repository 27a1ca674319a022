/-
  No cell of these rows narrows 'for every input' (looked for: loops, veiled, ifaces, maps, wideKeys, modest, calm, conditions, laid).
  DERIVED. THE GIVEN ROWS OF THIS SEAT. 12 by the template 'for every input the law returns true; each argument reads behind the call as it read before'; 0 by the template 'total and deterministic' (their statements: YtgaejkfdinkpmaaTotals.lean).
  GIVEN WITH THE SEED: the statements are not yours to turn. If you find one false, say at which input.
  Laid BY PROGRAM, IN A SANDBOX (cutbox-rows.mjs): the forced cells as the released guide's own fill.sh prints them over the translation 5be7717b9e5a9a61… (all of the seat's roots in one cut). By AI agents, Wed Nov 11 2026. No macro, syntax, notation, axiom, sorry.
-/
import Derived.Test.YtgaejkfdinkpmaaChecked
import GoSem.Claim
import GoSem.ClaimJoined
import GoSem.ClaimMapViews
import Derived.JoinedTies
import Derived.KernelRfl
namespace Go.Proofs.Ytgaejkfdinkpmaa
/- THE CELL 'sum', in the pinned program and in every row, IS THE sha256 OF THE DUMP (.gsa) THAT YtgaejkfdinkpmaaProg.lean LOADS. Nothing in Lean hashes anything: it is a label: what it is worth is what the hold of that sum in a sandbox is worth. -/
noncomputable def Try.pinned : Pinned := { name := "ytgaejkfdinkpmaa", sum := "5be7717b9e5a9a6175cd6387c089b0e8ef8e2250d694e635d28075b257343d0c", checked := Try.checked }
namespace Rows
def none {H : Type} : Left H := { results := [], args := [] }

/-- 'laws.FnExactValidFeed': WHATEVER THE INPUT: true; the input reads as it did. -/
def fnExactValidFeedSpec : ChangeSpec := { name := "fnExactValidFeed", fn := fun _ => fun
  | [d] => { results := [.lit (.bool true)], args := [d] }
  | _ => none }
def fnExactValidFeedRow : OpenClaim := { program := "ytgaejkfdinkpmaa", sum := "5be7717b9e5a9a6175cd6387c089b0e8ef8e2250d694e635d28075b257343d0c", func := "loop.example/g01204/laws.FnExactValidFeed", spec := "fnExactValidFeed", apart := false }
def FnExactValidFeedSaid : Prop := fnExactValidFeedRow.holds Try.pinned (OpenSpec.ofChange fnExactValidFeedSpec)

/-- ITS FALSE NEIGHBOUR: 'it returns false'. Refute it at one input. -/
def fnExactValidFeedWrong : ChangeSpec := { name := "fnExactValidFeed", fn := fun _ => fun
  | [d] => { results := [.lit (.bool false)], args := [d] }
  | _ => none }
def FnExactValidFeedWrongFalsely : Prop := fnExactValidFeedRow.holds Try.pinned (OpenSpec.ofChange fnExactValidFeedWrong)

/-- 'laws.FnExactValidCurve': WHATEVER THE INPUT: true; the input reads as it did. -/
def fnExactValidCurveSpec : ChangeSpec := { name := "fnExactValidCurve", fn := fun _ => fun
  | [d] => { results := [.lit (.bool true)], args := [d] }
  | _ => none }
def fnExactValidCurveRow : OpenClaim := { program := "ytgaejkfdinkpmaa", sum := "5be7717b9e5a9a6175cd6387c089b0e8ef8e2250d694e635d28075b257343d0c", func := "loop.example/g01204/laws.FnExactValidCurve", spec := "fnExactValidCurve", apart := false }
def FnExactValidCurveSaid : Prop := fnExactValidCurveRow.holds Try.pinned (OpenSpec.ofChange fnExactValidCurveSpec)

/-- ITS FALSE NEIGHBOUR: 'it returns false'. Refute it at one input. -/
def fnExactValidCurveWrong : ChangeSpec := { name := "fnExactValidCurve", fn := fun _ => fun
  | [d] => { results := [.lit (.bool false)], args := [d] }
  | _ => none }
def FnExactValidCurveWrongFalsely : Prop := fnExactValidCurveRow.holds Try.pinned (OpenSpec.ofChange fnExactValidCurveWrong)

/-- 'laws.FnExactCorrectBy': WHATEVER THE INPUT: true; the input reads as it did. -/
def fnExactCorrectBySpec : ChangeSpec := { name := "fnExactCorrectBy", fn := fun _ => fun
  | [d1, d2] => { results := [.lit (.bool true)], args := [d1, d2] }
  | _ => none }
def fnExactCorrectByRow : OpenClaim := { program := "ytgaejkfdinkpmaa", sum := "5be7717b9e5a9a6175cd6387c089b0e8ef8e2250d694e635d28075b257343d0c", func := "loop.example/g01204/laws.FnExactCorrectBy", spec := "fnExactCorrectBy", apart := false }
def FnExactCorrectBySaid : Prop := fnExactCorrectByRow.holds Try.pinned (OpenSpec.ofChange fnExactCorrectBySpec)

/-- ITS FALSE NEIGHBOUR: 'it returns false'. Refute it at one input. -/
def fnExactCorrectByWrong : ChangeSpec := { name := "fnExactCorrectBy", fn := fun _ => fun
  | [d1, d2] => { results := [.lit (.bool false)], args := [d1, d2] }
  | _ => none }
def FnExactCorrectByWrongFalsely : Prop := fnExactCorrectByRow.holds Try.pinned (OpenSpec.ofChange fnExactCorrectByWrong)

/-- 'laws.FnExactMeanOfFeed': WHATEVER THE INPUT: true; the input reads as it did. -/
def fnExactMeanOfFeedSpec : ChangeSpec := { name := "fnExactMeanOfFeed", fn := fun _ => fun
  | [d1, d2] => { results := [.lit (.bool true)], args := [d1, d2] }
  | _ => none }
def fnExactMeanOfFeedRow : OpenClaim := { program := "ytgaejkfdinkpmaa", sum := "5be7717b9e5a9a6175cd6387c089b0e8ef8e2250d694e635d28075b257343d0c", func := "loop.example/g01204/laws.FnExactMeanOfFeed", spec := "fnExactMeanOfFeed", apart := false }
def FnExactMeanOfFeedSaid : Prop := fnExactMeanOfFeedRow.holds Try.pinned (OpenSpec.ofChange fnExactMeanOfFeedSpec)

/-- ITS FALSE NEIGHBOUR: 'it returns false'. Refute it at one input. -/
def fnExactMeanOfFeedWrong : ChangeSpec := { name := "fnExactMeanOfFeed", fn := fun _ => fun
  | [d1, d2] => { results := [.lit (.bool false)], args := [d1, d2] }
  | _ => none }
def FnExactMeanOfFeedWrongFalsely : Prop := fnExactMeanOfFeedRow.holds Try.pinned (OpenSpec.ofChange fnExactMeanOfFeedWrong)

/-- 'laws.FnExactValueAt': WHATEVER THE INPUT: true; the input reads as it did. -/
def fnExactValueAtSpec : ChangeSpec := { name := "fnExactValueAt", fn := fun _ => fun
  | [d1, d2, d3] => { results := [.lit (.bool true)], args := [d1, d2, d3] }
  | _ => none }
def fnExactValueAtRow : OpenClaim := { program := "ytgaejkfdinkpmaa", sum := "5be7717b9e5a9a6175cd6387c089b0e8ef8e2250d694e635d28075b257343d0c", func := "loop.example/g01204/laws.FnExactValueAt", spec := "fnExactValueAt", unfollowed := true, recurses := true, apart := false }
def FnExactValueAtSaid : Prop := fnExactValueAtRow.holds Try.pinned (OpenSpec.ofChange fnExactValueAtSpec)

/-- ITS FALSE NEIGHBOUR: 'it returns false'. Refute it at one input. -/
def fnExactValueAtWrong : ChangeSpec := { name := "fnExactValueAt", fn := fun _ => fun
  | [d1, d2, d3] => { results := [.lit (.bool false)], args := [d1, d2, d3] }
  | _ => none }
def FnExactValueAtWrongFalsely : Prop := fnExactValueAtRow.holds Try.pinned (OpenSpec.ofChange fnExactValueAtWrong)

/-- 'laws.FnExactDropReadings': WHATEVER THE INPUT: true; the input reads as it did. -/
def fnExactDropReadingsSpec : ChangeSpec := { name := "fnExactDropReadings", fn := fun _ => fun
  | [d1, d2] => { results := [.lit (.bool true)], args := [d1, d2] }
  | _ => none }
def fnExactDropReadingsRow : OpenClaim := { program := "ytgaejkfdinkpmaa", sum := "5be7717b9e5a9a6175cd6387c089b0e8ef8e2250d694e635d28075b257343d0c", func := "loop.example/g01204/laws.FnExactDropReadings", spec := "fnExactDropReadings", apart := false }
def FnExactDropReadingsSaid : Prop := fnExactDropReadingsRow.holds Try.pinned (OpenSpec.ofChange fnExactDropReadingsSpec)

/-- ITS FALSE NEIGHBOUR: 'it returns false'. Refute it at one input. -/
def fnExactDropReadingsWrong : ChangeSpec := { name := "fnExactDropReadings", fn := fun _ => fun
  | [d1, d2] => { results := [.lit (.bool false)], args := [d1, d2] }
  | _ => none }
def FnExactDropReadingsWrongFalsely : Prop := fnExactDropReadingsRow.holds Try.pinned (OpenSpec.ofChange fnExactDropReadingsWrong)

/-- 'laws.FnExactArrivedBy': WHATEVER THE INPUT: true; the input reads as it did. -/
def fnExactArrivedBySpec : ChangeSpec := { name := "fnExactArrivedBy", fn := fun _ => fun
  | [d1, d2, d3] => { results := [.lit (.bool true)], args := [d1, d2, d3] }
  | _ => none }
def fnExactArrivedByRow : OpenClaim := { program := "ytgaejkfdinkpmaa", sum := "5be7717b9e5a9a6175cd6387c089b0e8ef8e2250d694e635d28075b257343d0c", func := "loop.example/g01204/laws.FnExactArrivedBy", spec := "fnExactArrivedBy", unfollowed := true, recurses := true, apart := false }
def FnExactArrivedBySaid : Prop := fnExactArrivedByRow.holds Try.pinned (OpenSpec.ofChange fnExactArrivedBySpec)

/-- ITS FALSE NEIGHBOUR: 'it returns false'. Refute it at one input. -/
def fnExactArrivedByWrong : ChangeSpec := { name := "fnExactArrivedBy", fn := fun _ => fun
  | [d1, d2, d3] => { results := [.lit (.bool false)], args := [d1, d2, d3] }
  | _ => none }
def FnExactArrivedByWrongFalsely : Prop := fnExactArrivedByRow.holds Try.pinned (OpenSpec.ofChange fnExactArrivedByWrong)

/-- 'laws.FnExactTimesBetween': WHATEVER THE INPUT: true; the input reads as it did. -/
def fnExactTimesBetweenSpec : ChangeSpec := { name := "fnExactTimesBetween", fn := fun _ => fun
  | [d1, d2, d3] => { results := [.lit (.bool true)], args := [d1, d2, d3] }
  | _ => none }
def fnExactTimesBetweenRow : OpenClaim := { program := "ytgaejkfdinkpmaa", sum := "5be7717b9e5a9a6175cd6387c089b0e8ef8e2250d694e635d28075b257343d0c", func := "loop.example/g01204/laws.FnExactTimesBetween", spec := "fnExactTimesBetween", apart := false }
def FnExactTimesBetweenSaid : Prop := fnExactTimesBetweenRow.holds Try.pinned (OpenSpec.ofChange fnExactTimesBetweenSpec)

/-- ITS FALSE NEIGHBOUR: 'it returns false'. Refute it at one input. -/
def fnExactTimesBetweenWrong : ChangeSpec := { name := "fnExactTimesBetween", fn := fun _ => fun
  | [d1, d2, d3] => { results := [.lit (.bool false)], args := [d1, d2, d3] }
  | _ => none }
def FnExactTimesBetweenWrongFalsely : Prop := fnExactTimesBetweenRow.holds Try.pinned (OpenSpec.ofChange fnExactTimesBetweenWrong)

/-- 'laws.FnExactPacketOf': WHATEVER THE INPUT: true; the input reads as it did. -/
def fnExactPacketOfSpec : ChangeSpec := { name := "fnExactPacketOf", fn := fun _ => fun
  | [d] => { results := [.lit (.bool true)], args := [d] }
  | _ => none }
def fnExactPacketOfRow : OpenClaim := { program := "ytgaejkfdinkpmaa", sum := "5be7717b9e5a9a6175cd6387c089b0e8ef8e2250d694e635d28075b257343d0c", func := "loop.example/g01204/laws.FnExactPacketOf", spec := "fnExactPacketOf", apart := false }
def FnExactPacketOfSaid : Prop := fnExactPacketOfRow.holds Try.pinned (OpenSpec.ofChange fnExactPacketOfSpec)

/-- ITS FALSE NEIGHBOUR: 'it returns false'. Refute it at one input. -/
def fnExactPacketOfWrong : ChangeSpec := { name := "fnExactPacketOf", fn := fun _ => fun
  | [d] => { results := [.lit (.bool false)], args := [d] }
  | _ => none }
def FnExactPacketOfWrongFalsely : Prop := fnExactPacketOfRow.holds Try.pinned (OpenSpec.ofChange fnExactPacketOfWrong)

/-- 'laws.FnExactStepTurns': WHATEVER THE INPUT: true; the input reads as it did. -/
def fnExactStepTurnsSpec : ChangeSpec := { name := "fnExactStepTurns", fn := fun _ => fun
  | [d1, d2, d3] => { results := [.lit (.bool true)], args := [d1, d2, d3] }
  | _ => none }
def fnExactStepTurnsRow : OpenClaim := { program := "ytgaejkfdinkpmaa", sum := "5be7717b9e5a9a6175cd6387c089b0e8ef8e2250d694e635d28075b257343d0c", func := "loop.example/g01204/laws.FnExactStepTurns", spec := "fnExactStepTurns", inPlace := ["math.sqrt", "math.Float64frombits", "math.archFloor", "math.Float64bits", "math.archTrunc"], apart := false }
def FnExactStepTurnsSaid : Prop := fnExactStepTurnsRow.holds Try.pinned (OpenSpec.ofChange fnExactStepTurnsSpec)

/-- ITS FALSE NEIGHBOUR: 'it returns false'. Refute it at one input. -/
def fnExactStepTurnsWrong : ChangeSpec := { name := "fnExactStepTurns", fn := fun _ => fun
  | [d1, d2, d3] => { results := [.lit (.bool false)], args := [d1, d2, d3] }
  | _ => none }
def FnExactStepTurnsWrongFalsely : Prop := fnExactStepTurnsRow.holds Try.pinned (OpenSpec.ofChange fnExactStepTurnsWrong)

/-- 'laws.FnExactUpdateAll': WHATEVER THE INPUT: true; the input reads as it did. -/
def fnExactUpdateAllSpec : ChangeSpec := { name := "fnExactUpdateAll", fn := fun _ => fun
  | [d1, d2] => { results := [.lit (.bool true)], args := [d1, d2] }
  | _ => none }
def fnExactUpdateAllRow : OpenClaim := { program := "ytgaejkfdinkpmaa", sum := "5be7717b9e5a9a6175cd6387c089b0e8ef8e2250d694e635d28075b257343d0c", func := "loop.example/g01204/laws.FnExactUpdateAll", spec := "fnExactUpdateAll", inPlace := ["math.sqrt"], unfollowed := true, recurses := true, apart := false }
def FnExactUpdateAllSaid : Prop := fnExactUpdateAllRow.holds Try.pinned (OpenSpec.ofChange fnExactUpdateAllSpec)

/-- ITS FALSE NEIGHBOUR: 'it returns false'. Refute it at one input. -/
def fnExactUpdateAllWrong : ChangeSpec := { name := "fnExactUpdateAll", fn := fun _ => fun
  | [d1, d2] => { results := [.lit (.bool false)], args := [d1, d2] }
  | _ => none }
def FnExactUpdateAllWrongFalsely : Prop := fnExactUpdateAllRow.holds Try.pinned (OpenSpec.ofChange fnExactUpdateAllWrong)

/-- 'laws.FnExactFuseStates': WHATEVER THE INPUT: true; the input reads as it did. -/
def fnExactFuseStatesSpec : ChangeSpec := { name := "fnExactFuseStates", fn := fun _ => fun
  | [d1, d2] => { results := [.lit (.bool true)], args := [d1, d2] }
  | _ => none }
def fnExactFuseStatesRow : OpenClaim := { program := "ytgaejkfdinkpmaa", sum := "5be7717b9e5a9a6175cd6387c089b0e8ef8e2250d694e635d28075b257343d0c", func := "loop.example/g01204/laws.FnExactFuseStates", spec := "fnExactFuseStates", inPlace := ["math.sqrt"], apart := false }
def FnExactFuseStatesSaid : Prop := fnExactFuseStatesRow.holds Try.pinned (OpenSpec.ofChange fnExactFuseStatesSpec)

/-- ITS FALSE NEIGHBOUR: 'it returns false'. Refute it at one input. -/
def fnExactFuseStatesWrong : ChangeSpec := { name := "fnExactFuseStates", fn := fun _ => fun
  | [d1, d2] => { results := [.lit (.bool false)], args := [d1, d2] }
  | _ => none }
def FnExactFuseStatesWrongFalsely : Prop := fnExactFuseStatesRow.holds Try.pinned (OpenSpec.ofChange fnExactFuseStatesWrong)

/- THE SECOND FORM. 'bulk': how many values and letters a reading holds, each counted each time it is reached (what is shared counts as often as it is met; a slice's spare places count too). A statement '..UptoSaid' is the law's where the arguments, and the package variables that the reading takes, are together of bulk at most 1048576: NARROWER than '..Said'. Prove '..Said' where nothing that the law and all that it calls make is longer than what came in: it says more and counts as full. Else prove '..UptoSaid'. A law counts once. -/
mutual
def uptoBulk {H : Type} : DataW H → Nat
  | .lit (.string bytes) => bytes.length + 1
  | .lit _ => 1
  | .nil => 1
  | .ptr d => uptoBulk d + 1
  | .slice elems spare => uptoBulkAll elems + uptoBulkAll spare + 1
  | .agg parts => uptoBulkAll parts + 1
  | .iface _ d => uptoBulk d + 1
  | .map entries => uptoBulkEntries entries + 1
  | .held _ => 1
def uptoBulkAll {H : Type} : List (DataW H) → Nat
  | [] => 0
  | d :: r => uptoBulk d + uptoBulkAll r
def uptoBulkEntries {H : Type} : List (Lit × DataW H) → Nat
  | [] => 0
  | x :: r => uptoBulkEntry x + uptoBulkEntries r
def uptoBulkEntry {H : Type} : Lit × DataW H → Nat
  | (.string bytes, d) => bytes.length + uptoBulk d + 1
  | (_, d) => uptoBulk d + 1
 end
def uptoSmall : (H : Type) → List (DataW H) → Bool := fun _ ds => decide (uptoBulkAll ds ≤ 1048576)
def OpenSpec.upto (s : _root_.Go.ChangeSpec) : _root_.Go.OpenSpec := { _root_.Go.OpenSpec.ofChange s with cond := some uptoSmall }

/-- 'laws.FnExactValidFeed', WHERE WHAT IT READS IS OF BULK AT MOST 1048576: true; the input reads as it did. -/
def fnExactValidFeedUptoRow : OpenClaim := { program := "ytgaejkfdinkpmaa", sum := "5be7717b9e5a9a6175cd6387c089b0e8ef8e2250d694e635d28075b257343d0c", func := "loop.example/g01204/laws.FnExactValidFeed", spec := "fnExactValidFeed", apart := false, narrowed := true }
def FnExactValidFeedUptoSaid : Prop := fnExactValidFeedUptoRow.holds Try.pinned (OpenSpec.upto fnExactValidFeedSpec)

/-- 'laws.FnExactValidCurve', WHERE WHAT IT READS IS OF BULK AT MOST 1048576: true; the input reads as it did. -/
def fnExactValidCurveUptoRow : OpenClaim := { program := "ytgaejkfdinkpmaa", sum := "5be7717b9e5a9a6175cd6387c089b0e8ef8e2250d694e635d28075b257343d0c", func := "loop.example/g01204/laws.FnExactValidCurve", spec := "fnExactValidCurve", apart := false, narrowed := true }
def FnExactValidCurveUptoSaid : Prop := fnExactValidCurveUptoRow.holds Try.pinned (OpenSpec.upto fnExactValidCurveSpec)

/-- 'laws.FnExactCorrectBy', WHERE WHAT IT READS IS OF BULK AT MOST 1048576: true; the input reads as it did. -/
def fnExactCorrectByUptoRow : OpenClaim := { program := "ytgaejkfdinkpmaa", sum := "5be7717b9e5a9a6175cd6387c089b0e8ef8e2250d694e635d28075b257343d0c", func := "loop.example/g01204/laws.FnExactCorrectBy", spec := "fnExactCorrectBy", apart := false, narrowed := true }
def FnExactCorrectByUptoSaid : Prop := fnExactCorrectByUptoRow.holds Try.pinned (OpenSpec.upto fnExactCorrectBySpec)

/-- 'laws.FnExactMeanOfFeed', WHERE WHAT IT READS IS OF BULK AT MOST 1048576: true; the input reads as it did. -/
def fnExactMeanOfFeedUptoRow : OpenClaim := { program := "ytgaejkfdinkpmaa", sum := "5be7717b9e5a9a6175cd6387c089b0e8ef8e2250d694e635d28075b257343d0c", func := "loop.example/g01204/laws.FnExactMeanOfFeed", spec := "fnExactMeanOfFeed", apart := false, narrowed := true }
def FnExactMeanOfFeedUptoSaid : Prop := fnExactMeanOfFeedUptoRow.holds Try.pinned (OpenSpec.upto fnExactMeanOfFeedSpec)

/-- 'laws.FnExactValueAt', WHERE WHAT IT READS IS OF BULK AT MOST 1048576: true; the input reads as it did. -/
def fnExactValueAtUptoRow : OpenClaim := { program := "ytgaejkfdinkpmaa", sum := "5be7717b9e5a9a6175cd6387c089b0e8ef8e2250d694e635d28075b257343d0c", func := "loop.example/g01204/laws.FnExactValueAt", spec := "fnExactValueAt", unfollowed := true, recurses := true, apart := false, narrowed := true }
def FnExactValueAtUptoSaid : Prop := fnExactValueAtUptoRow.holds Try.pinned (OpenSpec.upto fnExactValueAtSpec)

/-- 'laws.FnExactDropReadings', WHERE WHAT IT READS IS OF BULK AT MOST 1048576: true; the input reads as it did. -/
def fnExactDropReadingsUptoRow : OpenClaim := { program := "ytgaejkfdinkpmaa", sum := "5be7717b9e5a9a6175cd6387c089b0e8ef8e2250d694e635d28075b257343d0c", func := "loop.example/g01204/laws.FnExactDropReadings", spec := "fnExactDropReadings", apart := false, narrowed := true }
def FnExactDropReadingsUptoSaid : Prop := fnExactDropReadingsUptoRow.holds Try.pinned (OpenSpec.upto fnExactDropReadingsSpec)

/-- 'laws.FnExactArrivedBy', WHERE WHAT IT READS IS OF BULK AT MOST 1048576: true; the input reads as it did. -/
def fnExactArrivedByUptoRow : OpenClaim := { program := "ytgaejkfdinkpmaa", sum := "5be7717b9e5a9a6175cd6387c089b0e8ef8e2250d694e635d28075b257343d0c", func := "loop.example/g01204/laws.FnExactArrivedBy", spec := "fnExactArrivedBy", unfollowed := true, recurses := true, apart := false, narrowed := true }
def FnExactArrivedByUptoSaid : Prop := fnExactArrivedByUptoRow.holds Try.pinned (OpenSpec.upto fnExactArrivedBySpec)

/-- 'laws.FnExactTimesBetween', WHERE WHAT IT READS IS OF BULK AT MOST 1048576: true; the input reads as it did. -/
def fnExactTimesBetweenUptoRow : OpenClaim := { program := "ytgaejkfdinkpmaa", sum := "5be7717b9e5a9a6175cd6387c089b0e8ef8e2250d694e635d28075b257343d0c", func := "loop.example/g01204/laws.FnExactTimesBetween", spec := "fnExactTimesBetween", apart := false, narrowed := true }
def FnExactTimesBetweenUptoSaid : Prop := fnExactTimesBetweenUptoRow.holds Try.pinned (OpenSpec.upto fnExactTimesBetweenSpec)

/-- 'laws.FnExactPacketOf', WHERE WHAT IT READS IS OF BULK AT MOST 1048576: true; the input reads as it did. -/
def fnExactPacketOfUptoRow : OpenClaim := { program := "ytgaejkfdinkpmaa", sum := "5be7717b9e5a9a6175cd6387c089b0e8ef8e2250d694e635d28075b257343d0c", func := "loop.example/g01204/laws.FnExactPacketOf", spec := "fnExactPacketOf", apart := false, narrowed := true }
def FnExactPacketOfUptoSaid : Prop := fnExactPacketOfUptoRow.holds Try.pinned (OpenSpec.upto fnExactPacketOfSpec)

/-- 'laws.FnExactStepTurns', WHERE WHAT IT READS IS OF BULK AT MOST 1048576: true; the input reads as it did. -/
def fnExactStepTurnsUptoRow : OpenClaim := { program := "ytgaejkfdinkpmaa", sum := "5be7717b9e5a9a6175cd6387c089b0e8ef8e2250d694e635d28075b257343d0c", func := "loop.example/g01204/laws.FnExactStepTurns", spec := "fnExactStepTurns", inPlace := ["math.sqrt", "math.Float64frombits", "math.archFloor", "math.Float64bits", "math.archTrunc"], apart := false, narrowed := true }
def FnExactStepTurnsUptoSaid : Prop := fnExactStepTurnsUptoRow.holds Try.pinned (OpenSpec.upto fnExactStepTurnsSpec)

/-- 'laws.FnExactUpdateAll', WHERE WHAT IT READS IS OF BULK AT MOST 1048576: true; the input reads as it did. -/
def fnExactUpdateAllUptoRow : OpenClaim := { program := "ytgaejkfdinkpmaa", sum := "5be7717b9e5a9a6175cd6387c089b0e8ef8e2250d694e635d28075b257343d0c", func := "loop.example/g01204/laws.FnExactUpdateAll", spec := "fnExactUpdateAll", inPlace := ["math.sqrt"], unfollowed := true, recurses := true, apart := false, narrowed := true }
def FnExactUpdateAllUptoSaid : Prop := fnExactUpdateAllUptoRow.holds Try.pinned (OpenSpec.upto fnExactUpdateAllSpec)

/-- 'laws.FnExactFuseStates', WHERE WHAT IT READS IS OF BULK AT MOST 1048576: true; the input reads as it did. -/
def fnExactFuseStatesUptoRow : OpenClaim := { program := "ytgaejkfdinkpmaa", sum := "5be7717b9e5a9a6175cd6387c089b0e8ef8e2250d694e635d28075b257343d0c", func := "loop.example/g01204/laws.FnExactFuseStates", spec := "fnExactFuseStates", inPlace := ["math.sqrt"], apart := false, narrowed := true }
def FnExactFuseStatesUptoSaid : Prop := fnExactFuseStatesUptoRow.holds Try.pinned (OpenSpec.upto fnExactFuseStatesSpec)

end Rows
end Go.Proofs.Ytgaejkfdinkpmaa
