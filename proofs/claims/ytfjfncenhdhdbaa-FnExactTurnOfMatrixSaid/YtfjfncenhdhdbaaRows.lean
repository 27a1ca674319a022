/-
  No cell of these rows narrows 'for every input' (looked for: loops, veiled, ifaces, maps, wideKeys, modest, calm, conditions, laid).
  DERIVED. THE GIVEN ROWS OF THIS SEAT. 6 by the template 'for every input the law returns true; each argument reads behind the call as it read before'; 0 by the template 'total and deterministic' (their statements: YtfjfncenhdhdbaaTotals.lean).
  GIVEN WITH THE SEED: the statements are not yours to turn. If you find one false, say at which input.
  Laid BY PROGRAM, IN A SANDBOX (cutbox-rows.mjs): the forced cells as the released guide's own fill.sh prints them over the translation 908a766651482066… (all of the seat's roots in one cut). By AI agents, Wed Nov 11 2026. No macro, syntax, notation, axiom, sorry.
-/
import Derived.Test.YtfjfncenhdhdbaaChecked
import GoSem.Claim
import GoSem.ClaimJoined
import GoSem.ClaimMapViews
import Derived.JoinedTies
import Derived.KernelRfl
namespace Go.Proofs.Ytfjfncenhdhdbaa
/- THE CELL 'sum', in the pinned program and in every row, IS THE sha256 OF THE DUMP (.gsa) THAT YtfjfncenhdhdbaaProg.lean LOADS. Nothing in Lean hashes anything: it is a label: what it is worth is what the hold of that sum in a sandbox is worth. -/
noncomputable def Try.pinned : Pinned := { name := "ytfjfncenhdhdbaa", sum := "908a766651482066bda93fdf116765ffa97f7eef833e01f01548ca85569271a7", checked := Try.checked }
namespace Rows
def none {H : Type} : Left H := { results := [], args := [] }

/-- 'laws.FnExactTurnOfMatrix': WHATEVER THE INPUT: true; the input reads as it did. -/
def fnExactTurnOfMatrixSpec : ChangeSpec := { name := "fnExactTurnOfMatrix", fn := fun _ => fun
  | [d] => { results := [.lit (.bool true)], args := [d] }
  | _ => none }
def fnExactTurnOfMatrixRow : OpenClaim := { program := "ytfjfncenhdhdbaa", sum := "908a766651482066bda93fdf116765ffa97f7eef833e01f01548ca85569271a7", func := "loop.example/g01204/laws.FnExactTurnOfMatrix", spec := "fnExactTurnOfMatrix", inPlace := ["math.sqrt"], apart := false }
def FnExactTurnOfMatrixSaid : Prop := fnExactTurnOfMatrixRow.holds Try.pinned (OpenSpec.ofChange fnExactTurnOfMatrixSpec)

/-- ITS FALSE NEIGHBOUR: 'it returns false'. Refute it at one input. -/
def fnExactTurnOfMatrixWrong : ChangeSpec := { name := "fnExactTurnOfMatrix", fn := fun _ => fun
  | [d] => { results := [.lit (.bool false)], args := [d] }
  | _ => none }
def FnExactTurnOfMatrixWrongFalsely : Prop := fnExactTurnOfMatrixRow.holds Try.pinned (OpenSpec.ofChange fnExactTurnOfMatrixWrong)

/-- 'laws.FnExactTurnAbout': WHATEVER THE INPUT: true; the input reads as it did. -/
def fnExactTurnAboutSpec : ChangeSpec := { name := "fnExactTurnAbout", fn := fun _ => fun
  | [d1, d2] => { results := [.lit (.bool true)], args := [d1, d2] }
  | _ => none }
def fnExactTurnAboutRow : OpenClaim := { program := "ytfjfncenhdhdbaa", sum := "908a766651482066bda93fdf116765ffa97f7eef833e01f01548ca85569271a7", func := "loop.example/g01204/laws.FnExactTurnAbout", spec := "fnExactTurnAbout", inPlace := ["math.sqrt", "math.Float64frombits", "math.archFloor", "math.Float64bits", "math.archTrunc"], apart := false }
def FnExactTurnAboutSaid : Prop := fnExactTurnAboutRow.holds Try.pinned (OpenSpec.ofChange fnExactTurnAboutSpec)

/-- ITS FALSE NEIGHBOUR: 'it returns false'. Refute it at one input. -/
def fnExactTurnAboutWrong : ChangeSpec := { name := "fnExactTurnAbout", fn := fun _ => fun
  | [d1, d2] => { results := [.lit (.bool false)], args := [d1, d2] }
  | _ => none }
def FnExactTurnAboutWrongFalsely : Prop := fnExactTurnAboutRow.holds Try.pinned (OpenSpec.ofChange fnExactTurnAboutWrong)

/-- 'laws.FnExactStepTurn': WHATEVER THE INPUT: true; the input reads as it did. -/
def fnExactStepTurnSpec : ChangeSpec := { name := "fnExactStepTurn", fn := fun _ => fun
  | [d1, d2, d3] => { results := [.lit (.bool true)], args := [d1, d2, d3] }
  | _ => none }
def fnExactStepTurnRow : OpenClaim := { program := "ytfjfncenhdhdbaa", sum := "908a766651482066bda93fdf116765ffa97f7eef833e01f01548ca85569271a7", func := "loop.example/g01204/laws.FnExactStepTurn", spec := "fnExactStepTurn", inPlace := ["math.sqrt", "math.Float64frombits", "math.archFloor", "math.Float64bits", "math.archTrunc"], apart := false }
def FnExactStepTurnSaid : Prop := fnExactStepTurnRow.holds Try.pinned (OpenSpec.ofChange fnExactStepTurnSpec)

/-- ITS FALSE NEIGHBOUR: 'it returns false'. Refute it at one input. -/
def fnExactStepTurnWrong : ChangeSpec := { name := "fnExactStepTurn", fn := fun _ => fun
  | [d1, d2, d3] => { results := [.lit (.bool false)], args := [d1, d2, d3] }
  | _ => none }
def FnExactStepTurnWrongFalsely : Prop := fnExactStepTurnRow.holds Try.pinned (OpenSpec.ofChange fnExactStepTurnWrong)

/-- 'laws.FnExactStepTurns': WHATEVER THE INPUT: true; the input reads as it did. -/
def fnExactStepTurnsSpec : ChangeSpec := { name := "fnExactStepTurns", fn := fun _ => fun
  | [d1, d2, d3] => { results := [.lit (.bool true)], args := [d1, d2, d3] }
  | _ => none }
def fnExactStepTurnsRow : OpenClaim := { program := "ytfjfncenhdhdbaa", sum := "908a766651482066bda93fdf116765ffa97f7eef833e01f01548ca85569271a7", func := "loop.example/g01204/laws.FnExactStepTurns", spec := "fnExactStepTurns", inPlace := ["math.sqrt", "math.Float64frombits", "math.archFloor", "math.Float64bits", "math.archTrunc"], apart := false }
def FnExactStepTurnsSaid : Prop := fnExactStepTurnsRow.holds Try.pinned (OpenSpec.ofChange fnExactStepTurnsSpec)

/-- ITS FALSE NEIGHBOUR: 'it returns false'. Refute it at one input. -/
def fnExactStepTurnsWrong : ChangeSpec := { name := "fnExactStepTurns", fn := fun _ => fun
  | [d1, d2, d3] => { results := [.lit (.bool false)], args := [d1, d2, d3] }
  | _ => none }
def FnExactStepTurnsWrongFalsely : Prop := fnExactStepTurnsRow.holds Try.pinned (OpenSpec.ofChange fnExactStepTurnsWrong)

/-- 'laws.FnAngles': WHATEVER THE INPUT: true; the input reads as it did. -/
def fnAnglesSpec : ChangeSpec := { name := "fnAngles", fn := fun _ => fun
  | [d1, d2] => { results := [.lit (.bool true)], args := [d1, d2] }
  | _ => none }
def fnAnglesRow : OpenClaim := { program := "ytfjfncenhdhdbaa", sum := "908a766651482066bda93fdf116765ffa97f7eef833e01f01548ca85569271a7", func := "loop.example/g01204/laws.FnAngles", spec := "fnAngles", inPlace := ["math.Float64frombits", "math.archFloor", "math.Float64bits", "math.archTrunc", "math.sqrt", "math.RoundToEven"], apart := false }
def FnAnglesSaid : Prop := fnAnglesRow.holds Try.pinned (OpenSpec.ofChange fnAnglesSpec)

/-- ITS FALSE NEIGHBOUR: 'it returns false'. Refute it at one input. -/
def fnAnglesWrong : ChangeSpec := { name := "fnAngles", fn := fun _ => fun
  | [d1, d2] => { results := [.lit (.bool false)], args := [d1, d2] }
  | _ => none }
def FnAnglesWrongFalsely : Prop := fnAnglesRow.holds Try.pinned (OpenSpec.ofChange fnAnglesWrong)

/-- 'laws.FnTurnSteps': WHATEVER THE INPUT: true; the input reads as it did. -/
def fnTurnStepsSpec : ChangeSpec := { name := "fnTurnSteps", fn := fun _ => fun
  | [d1, d2] => { results := [.lit (.bool true)], args := [d1, d2] }
  | _ => none }
def fnTurnStepsRow : OpenClaim := { program := "ytfjfncenhdhdbaa", sum := "908a766651482066bda93fdf116765ffa97f7eef833e01f01548ca85569271a7", func := "loop.example/g01204/laws.FnTurnSteps", spec := "fnTurnSteps", inPlace := ["math.Float64frombits", "math.archFloor", "math.Float64bits", "math.archTrunc", "math.sqrt", "math.RoundToEven", "math.Float32bits"], apart := false }
def FnTurnStepsSaid : Prop := fnTurnStepsRow.holds Try.pinned (OpenSpec.ofChange fnTurnStepsSpec)

/-- ITS FALSE NEIGHBOUR: 'it returns false'. Refute it at one input. -/
def fnTurnStepsWrong : ChangeSpec := { name := "fnTurnSteps", fn := fun _ => fun
  | [d1, d2] => { results := [.lit (.bool false)], args := [d1, d2] }
  | _ => none }
def FnTurnStepsWrongFalsely : Prop := fnTurnStepsRow.holds Try.pinned (OpenSpec.ofChange fnTurnStepsWrong)

/- THE SECOND FORM. 'bulk': how many values and letters a reading holds, each counted each time it is reached (what is shared counts as often as it is met; a slice's spare places count too). A statement '..UptoSaid' is the law's where the arguments, and the package variables that the reading takes, are together of bulk at most 1048576: NARROWER than '..Said'. Prove '..Said' where nothing that the law and all that it calls make is longer than what came in: it says more and counts as full. Else prove '..UptoSaid'. A law counts once. -/
mutual
def uptoBulk {H : Type} : DataW H → Nat
  | .lit (.string bytes) => bytes.length + 1
  | .lit _ => 1
  | .nil => 1
  | .ptr d => uptoBulk d + 1
  | .slice elems spare => uptoBulkAll elems + uptoBulkAll spare + 1
  | .agg parts => uptoBulkAll parts + 1
  | .iface _ d => uptoBulk d + 1
  | .map entries => uptoBulkEntries entries + 1
  | .held _ => 1
def uptoBulkAll {H : Type} : List (DataW H) → Nat
  | [] => 0
  | d :: r => uptoBulk d + uptoBulkAll r
def uptoBulkEntries {H : Type} : List (Lit × DataW H) → Nat
  | [] => 0
  | x :: r => uptoBulkEntry x + uptoBulkEntries r
def uptoBulkEntry {H : Type} : Lit × DataW H → Nat
  | (.string bytes, d) => bytes.length + uptoBulk d + 1
  | (_, d) => uptoBulk d + 1
 end
def uptoSmall : (H : Type) → List (DataW H) → Bool := fun _ ds => decide (uptoBulkAll ds ≤ 1048576)
def OpenSpec.upto (s : _root_.Go.ChangeSpec) : _root_.Go.OpenSpec := { _root_.Go.OpenSpec.ofChange s with cond := some uptoSmall }

/-- 'laws.FnExactTurnOfMatrix', WHERE WHAT IT READS IS OF BULK AT MOST 1048576: true; the input reads as it did. -/
def fnExactTurnOfMatrixUptoRow : OpenClaim := { program := "ytfjfncenhdhdbaa", sum := "908a766651482066bda93fdf116765ffa97f7eef833e01f01548ca85569271a7", func := "loop.example/g01204/laws.FnExactTurnOfMatrix", spec := "fnExactTurnOfMatrix", inPlace := ["math.sqrt"], apart := false, narrowed := true }
def FnExactTurnOfMatrixUptoSaid : Prop := fnExactTurnOfMatrixUptoRow.holds Try.pinned (OpenSpec.upto fnExactTurnOfMatrixSpec)

/-- 'laws.FnExactTurnAbout', WHERE WHAT IT READS IS OF BULK AT MOST 1048576: true; the input reads as it did. -/
def fnExactTurnAboutUptoRow : OpenClaim := { program := "ytfjfncenhdhdbaa", sum := "908a766651482066bda93fdf116765ffa97f7eef833e01f01548ca85569271a7", func := "loop.example/g01204/laws.FnExactTurnAbout", spec := "fnExactTurnAbout", inPlace := ["math.sqrt", "math.Float64frombits", "math.archFloor", "math.Float64bits", "math.archTrunc"], apart := false, narrowed := true }
def FnExactTurnAboutUptoSaid : Prop := fnExactTurnAboutUptoRow.holds Try.pinned (OpenSpec.upto fnExactTurnAboutSpec)

/-- 'laws.FnExactStepTurn', WHERE WHAT IT READS IS OF BULK AT MOST 1048576: true; the input reads as it did. -/
def fnExactStepTurnUptoRow : OpenClaim := { program := "ytfjfncenhdhdbaa", sum := "908a766651482066bda93fdf116765ffa97f7eef833e01f01548ca85569271a7", func := "loop.example/g01204/laws.FnExactStepTurn", spec := "fnExactStepTurn", inPlace := ["math.sqrt", "math.Float64frombits", "math.archFloor", "math.Float64bits", "math.archTrunc"], apart := false, narrowed := true }
def FnExactStepTurnUptoSaid : Prop := fnExactStepTurnUptoRow.holds Try.pinned (OpenSpec.upto fnExactStepTurnSpec)

/-- 'laws.FnExactStepTurns', WHERE WHAT IT READS IS OF BULK AT MOST 1048576: true; the input reads as it did. -/
def fnExactStepTurnsUptoRow : OpenClaim := { program := "ytfjfncenhdhdbaa", sum := "908a766651482066bda93fdf116765ffa97f7eef833e01f01548ca85569271a7", func := "loop.example/g01204/laws.FnExactStepTurns", spec := "fnExactStepTurns", inPlace := ["math.sqrt", "math.Float64frombits", "math.archFloor", "math.Float64bits", "math.archTrunc"], apart := false, narrowed := true }
def FnExactStepTurnsUptoSaid : Prop := fnExactStepTurnsUptoRow.holds Try.pinned (OpenSpec.upto fnExactStepTurnsSpec)

/-- 'laws.FnAngles', WHERE WHAT IT READS IS OF BULK AT MOST 1048576: true; the input reads as it did. -/
def fnAnglesUptoRow : OpenClaim := { program := "ytfjfncenhdhdbaa", sum := "908a766651482066bda93fdf116765ffa97f7eef833e01f01548ca85569271a7", func := "loop.example/g01204/laws.FnAngles", spec := "fnAngles", inPlace := ["math.Float64frombits", "math.archFloor", "math.Float64bits", "math.archTrunc", "math.sqrt", "math.RoundToEven"], apart := false, narrowed := true }
def FnAnglesUptoSaid : Prop := fnAnglesUptoRow.holds Try.pinned (OpenSpec.upto fnAnglesSpec)

/-- 'laws.FnTurnSteps', WHERE WHAT IT READS IS OF BULK AT MOST 1048576: true; the input reads as it did. -/
def fnTurnStepsUptoRow : OpenClaim := { program := "ytfjfncenhdhdbaa", sum := "908a766651482066bda93fdf116765ffa97f7eef833e01f01548ca85569271a7", func := "loop.example/g01204/laws.FnTurnSteps", spec := "fnTurnSteps", inPlace := ["math.Float64frombits", "math.archFloor", "math.Float64bits", "math.archTrunc", "math.sqrt", "math.RoundToEven", "math.Float32bits"], apart := false, narrowed := true }
def FnTurnStepsUptoSaid : Prop := fnTurnStepsUptoRow.holds Try.pinned (OpenSpec.upto fnTurnStepsSpec)

end Rows
end Go.Proofs.Ytfjfncenhdhdbaa
