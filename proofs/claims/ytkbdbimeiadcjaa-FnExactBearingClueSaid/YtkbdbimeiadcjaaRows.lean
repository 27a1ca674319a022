/-
  No cell of these rows narrows 'for every input' (looked for: loops, veiled, ifaces, maps, wideKeys, modest, calm, conditions, laid).
  DERIVED. THE GIVEN ROWS OF THIS SEAT. 7 by the template 'for every input the law returns true; each argument reads behind the call as it read before'; 0 by the template 'total and deterministic' (their statements: YtkbdbimeiadcjaaTotals.lean).
  GIVEN WITH THE SEED: the statements are not yours to turn. If you find one false, say at which input.
  Laid BY PROGRAM, IN A SANDBOX (cutbox-rows.mjs): the forced cells as the released guide's own fill.sh prints them over the translation 2ce4816bbaeb79e9… (all of the seat's roots in one cut). By AI agents, Wed Nov 11 2026. No macro, syntax, notation, axiom, sorry.
-/
import Derived.Test.YtkbdbimeiadcjaaChecked
import GoSem.Claim
import GoSem.ClaimJoined
import GoSem.ClaimMapViews
import Derived.JoinedTies
import Derived.KernelRfl
namespace Go.Proofs.Ytkbdbimeiadcjaa
/- THE CELL 'sum', in the pinned program and in every row, IS THE sha256 OF THE DUMP (.gsa) THAT YtkbdbimeiadcjaaProg.lean LOADS. Nothing in Lean hashes anything: it is a label: what it is worth is what the hold of that sum in a sandbox is worth. -/
noncomputable def Try.pinned : Pinned := { name := "ytkbdbimeiadcjaa", sum := "2ce4816bbaeb79e9d3aeecaab275e099dcb8a470a4940cf1b8e5cd8ae70597f5", checked := Try.checked }
namespace Rows
def none {H : Type} : Left H := { results := [], args := [] }

/-- 'laws.FnExactSameState': WHATEVER THE INPUT: true; the input reads as it did. -/
def fnExactSameStateSpec : ChangeSpec := { name := "fnExactSameState", fn := fun _ => fun
  | [d1, d2] => { results := [.lit (.bool true)], args := [d1, d2] }
  | _ => none }
def fnExactSameStateRow : OpenClaim := { program := "ytkbdbimeiadcjaa", sum := "2ce4816bbaeb79e9d3aeecaab275e099dcb8a470a4940cf1b8e5cd8ae70597f5", func := "loop.example/g01204/laws.FnExactSameState", spec := "fnExactSameState", inPlace := ["math.Float32bits"], unfollowed := true, recurses := true, apart := false }
def FnExactSameStateSaid : Prop := fnExactSameStateRow.holds Try.pinned (OpenSpec.ofChange fnExactSameStateSpec)

/-- ITS FALSE NEIGHBOUR: 'it returns false'. Refute it at one input. -/
def fnExactSameStateWrong : ChangeSpec := { name := "fnExactSameState", fn := fun _ => fun
  | [d1, d2] => { results := [.lit (.bool false)], args := [d1, d2] }
  | _ => none }
def FnExactSameStateWrongFalsely : Prop := fnExactSameStateRow.holds Try.pinned (OpenSpec.ofChange fnExactSameStateWrong)

/-- 'laws.FnExactBearingClue': WHATEVER THE INPUT: true; the input reads as it did. -/
def fnExactBearingClueSpec : ChangeSpec := { name := "fnExactBearingClue", fn := fun _ => fun
  | [d1, d2, d3, d4] => { results := [.lit (.bool true)], args := [d1, d2, d3, d4] }
  | _ => none }
def fnExactBearingClueRow : OpenClaim := { program := "ytkbdbimeiadcjaa", sum := "2ce4816bbaeb79e9d3aeecaab275e099dcb8a470a4940cf1b8e5cd8ae70597f5", func := "loop.example/g01204/laws.FnExactBearingClue", spec := "fnExactBearingClue", inPlace := ["math.Float64frombits", "math.Float64bits", "math.sqrt", "math.RoundToEven"], apart := false }
def FnExactBearingClueSaid : Prop := fnExactBearingClueRow.holds Try.pinned (OpenSpec.ofChange fnExactBearingClueSpec)

/-- ITS FALSE NEIGHBOUR: 'it returns false'. Refute it at one input. -/
def fnExactBearingClueWrong : ChangeSpec := { name := "fnExactBearingClue", fn := fun _ => fun
  | [d1, d2, d3, d4] => { results := [.lit (.bool false)], args := [d1, d2, d3, d4] }
  | _ => none }
def FnExactBearingClueWrongFalsely : Prop := fnExactBearingClueRow.holds Try.pinned (OpenSpec.ofChange fnExactBearingClueWrong)

/-- 'laws.FnExactUpdateAll': WHATEVER THE INPUT: true; the input reads as it did. -/
def fnExactUpdateAllSpec : ChangeSpec := { name := "fnExactUpdateAll", fn := fun _ => fun
  | [d1, d2] => { results := [.lit (.bool true)], args := [d1, d2] }
  | _ => none }
def fnExactUpdateAllRow : OpenClaim := { program := "ytkbdbimeiadcjaa", sum := "2ce4816bbaeb79e9d3aeecaab275e099dcb8a470a4940cf1b8e5cd8ae70597f5", func := "loop.example/g01204/laws.FnExactUpdateAll", spec := "fnExactUpdateAll", inPlace := ["math.sqrt"], unfollowed := true, recurses := true, apart := false }
def FnExactUpdateAllSaid : Prop := fnExactUpdateAllRow.holds Try.pinned (OpenSpec.ofChange fnExactUpdateAllSpec)

/-- ITS FALSE NEIGHBOUR: 'it returns false'. Refute it at one input. -/
def fnExactUpdateAllWrong : ChangeSpec := { name := "fnExactUpdateAll", fn := fun _ => fun
  | [d1, d2] => { results := [.lit (.bool false)], args := [d1, d2] }
  | _ => none }
def FnExactUpdateAllWrongFalsely : Prop := fnExactUpdateAllRow.holds Try.pinned (OpenSpec.ofChange fnExactUpdateAllWrong)

/-- 'laws.FnExactFuseStates': WHATEVER THE INPUT: true; the input reads as it did. -/
def fnExactFuseStatesSpec : ChangeSpec := { name := "fnExactFuseStates", fn := fun _ => fun
  | [d1, d2] => { results := [.lit (.bool true)], args := [d1, d2] }
  | _ => none }
def fnExactFuseStatesRow : OpenClaim := { program := "ytkbdbimeiadcjaa", sum := "2ce4816bbaeb79e9d3aeecaab275e099dcb8a470a4940cf1b8e5cd8ae70597f5", func := "loop.example/g01204/laws.FnExactFuseStates", spec := "fnExactFuseStates", inPlace := ["math.sqrt"], apart := false }
def FnExactFuseStatesSaid : Prop := fnExactFuseStatesRow.holds Try.pinned (OpenSpec.ofChange fnExactFuseStatesSpec)

/-- ITS FALSE NEIGHBOUR: 'it returns false'. Refute it at one input. -/
def fnExactFuseStatesWrong : ChangeSpec := { name := "fnExactFuseStates", fn := fun _ => fun
  | [d1, d2] => { results := [.lit (.bool false)], args := [d1, d2] }
  | _ => none }
def FnExactFuseStatesWrongFalsely : Prop := fnExactFuseStatesRow.holds Try.pinned (OpenSpec.ofChange fnExactFuseStatesWrong)

/-- 'laws.FnSeen': WHATEVER THE INPUT: true; the input reads as it did. -/
def fnSeenSpec : ChangeSpec := { name := "fnSeen", fn := fun _ => fun
  | [d1, d2] => { results := [.lit (.bool true)], args := [d1, d2] }
  | _ => none }
def fnSeenRow : OpenClaim := { program := "ytkbdbimeiadcjaa", sum := "2ce4816bbaeb79e9d3aeecaab275e099dcb8a470a4940cf1b8e5cd8ae70597f5", func := "loop.example/g01204/laws.FnSeen", spec := "fnSeen", inPlace := ["math.sqrt", "math.Float64frombits", "math.Float64bits", "math.RoundToEven"], apart := false }
def FnSeenSaid : Prop := fnSeenRow.holds Try.pinned (OpenSpec.ofChange fnSeenSpec)

/-- ITS FALSE NEIGHBOUR: 'it returns false'. Refute it at one input. -/
def fnSeenWrong : ChangeSpec := { name := "fnSeen", fn := fun _ => fun
  | [d1, d2] => { results := [.lit (.bool false)], args := [d1, d2] }
  | _ => none }
def FnSeenWrongFalsely : Prop := fnSeenRow.holds Try.pinned (OpenSpec.ofChange fnSeenWrong)

/-- 'laws.FnRooted': WHATEVER THE INPUT: true; the input reads as it did. -/
def fnRootedSpec : ChangeSpec := { name := "fnRooted", fn := fun _ => fun
  | [d1, d2] => { results := [.lit (.bool true)], args := [d1, d2] }
  | _ => none }
def fnRootedRow : OpenClaim := { program := "ytkbdbimeiadcjaa", sum := "2ce4816bbaeb79e9d3aeecaab275e099dcb8a470a4940cf1b8e5cd8ae70597f5", func := "loop.example/g01204/laws.FnRooted", spec := "fnRooted", inPlace := ["math.sqrt", "math.Float32bits"], apart := false }
def FnRootedSaid : Prop := fnRootedRow.holds Try.pinned (OpenSpec.ofChange fnRootedSpec)

/-- ITS FALSE NEIGHBOUR: 'it returns false'. Refute it at one input. -/
def fnRootedWrong : ChangeSpec := { name := "fnRooted", fn := fun _ => fun
  | [d1, d2] => { results := [.lit (.bool false)], args := [d1, d2] }
  | _ => none }
def FnRootedWrongFalsely : Prop := fnRootedRow.holds Try.pinned (OpenSpec.ofChange fnRootedWrong)

/-- 'laws.FnLearnt': WHATEVER THE INPUT: true; the input reads as it did. -/
def fnLearntSpec : ChangeSpec := { name := "fnLearnt", fn := fun _ => fun
  | [d1, d2] => { results := [.lit (.bool true)], args := [d1, d2] }
  | _ => none }
def fnLearntRow : OpenClaim := { program := "ytkbdbimeiadcjaa", sum := "2ce4816bbaeb79e9d3aeecaab275e099dcb8a470a4940cf1b8e5cd8ae70597f5", func := "loop.example/g01204/laws.FnLearnt", spec := "fnLearnt", inPlace := ["math.Float64frombits", "math.Float32frombits", "math.sqrt", "math.Float32bits"], unfollowed := true, recurses := true, apart := false }
def FnLearntSaid : Prop := fnLearntRow.holds Try.pinned (OpenSpec.ofChange fnLearntSpec)

/-- ITS FALSE NEIGHBOUR: 'it returns false'. Refute it at one input. -/
def fnLearntWrong : ChangeSpec := { name := "fnLearnt", fn := fun _ => fun
  | [d1, d2] => { results := [.lit (.bool false)], args := [d1, d2] }
  | _ => none }
def FnLearntWrongFalsely : Prop := fnLearntRow.holds Try.pinned (OpenSpec.ofChange fnLearntWrong)

/- THE SECOND FORM. 'bulk': how many values and letters a reading holds, each counted each time it is reached (what is shared counts as often as it is met; a slice's spare places count too). A statement '..UptoSaid' is the law's where the arguments, and the package variables that the reading takes, are together of bulk at most 1048576: NARROWER than '..Said'. Prove '..Said' where nothing that the law and all that it calls make is longer than what came in: it says more and counts as full. Else prove '..UptoSaid'. A law counts once. -/
mutual
def uptoBulk {H : Type} : DataW H → Nat
  | .lit (.string bytes) => bytes.length + 1
  | .lit _ => 1
  | .nil => 1
  | .ptr d => uptoBulk d + 1
  | .slice elems spare => uptoBulkAll elems + uptoBulkAll spare + 1
  | .agg parts => uptoBulkAll parts + 1
  | .iface _ d => uptoBulk d + 1
  | .map entries => uptoBulkEntries entries + 1
  | .held _ => 1
def uptoBulkAll {H : Type} : List (DataW H) → Nat
  | [] => 0
  | d :: r => uptoBulk d + uptoBulkAll r
def uptoBulkEntries {H : Type} : List (Lit × DataW H) → Nat
  | [] => 0
  | x :: r => uptoBulkEntry x + uptoBulkEntries r
def uptoBulkEntry {H : Type} : Lit × DataW H → Nat
  | (.string bytes, d) => bytes.length + uptoBulk d + 1
  | (_, d) => uptoBulk d + 1
 end
def uptoSmall : (H : Type) → List (DataW H) → Bool := fun _ ds => decide (uptoBulkAll ds ≤ 1048576)
def OpenSpec.upto (s : _root_.Go.ChangeSpec) : _root_.Go.OpenSpec := { _root_.Go.OpenSpec.ofChange s with cond := some uptoSmall }

/-- 'laws.FnExactSameState', WHERE WHAT IT READS IS OF BULK AT MOST 1048576: true; the input reads as it did. -/
def fnExactSameStateUptoRow : OpenClaim := { program := "ytkbdbimeiadcjaa", sum := "2ce4816bbaeb79e9d3aeecaab275e099dcb8a470a4940cf1b8e5cd8ae70597f5", func := "loop.example/g01204/laws.FnExactSameState", spec := "fnExactSameState", inPlace := ["math.Float32bits"], unfollowed := true, recurses := true, apart := false, narrowed := true }
def FnExactSameStateUptoSaid : Prop := fnExactSameStateUptoRow.holds Try.pinned (OpenSpec.upto fnExactSameStateSpec)

/-- 'laws.FnExactBearingClue', WHERE WHAT IT READS IS OF BULK AT MOST 1048576: true; the input reads as it did. -/
def fnExactBearingClueUptoRow : OpenClaim := { program := "ytkbdbimeiadcjaa", sum := "2ce4816bbaeb79e9d3aeecaab275e099dcb8a470a4940cf1b8e5cd8ae70597f5", func := "loop.example/g01204/laws.FnExactBearingClue", spec := "fnExactBearingClue", inPlace := ["math.Float64frombits", "math.Float64bits", "math.sqrt", "math.RoundToEven"], apart := false, narrowed := true }
def FnExactBearingClueUptoSaid : Prop := fnExactBearingClueUptoRow.holds Try.pinned (OpenSpec.upto fnExactBearingClueSpec)

/-- 'laws.FnExactUpdateAll', WHERE WHAT IT READS IS OF BULK AT MOST 1048576: true; the input reads as it did. -/
def fnExactUpdateAllUptoRow : OpenClaim := { program := "ytkbdbimeiadcjaa", sum := "2ce4816bbaeb79e9d3aeecaab275e099dcb8a470a4940cf1b8e5cd8ae70597f5", func := "loop.example/g01204/laws.FnExactUpdateAll", spec := "fnExactUpdateAll", inPlace := ["math.sqrt"], unfollowed := true, recurses := true, apart := false, narrowed := true }
def FnExactUpdateAllUptoSaid : Prop := fnExactUpdateAllUptoRow.holds Try.pinned (OpenSpec.upto fnExactUpdateAllSpec)

/-- 'laws.FnExactFuseStates', WHERE WHAT IT READS IS OF BULK AT MOST 1048576: true; the input reads as it did. -/
def fnExactFuseStatesUptoRow : OpenClaim := { program := "ytkbdbimeiadcjaa", sum := "2ce4816bbaeb79e9d3aeecaab275e099dcb8a470a4940cf1b8e5cd8ae70597f5", func := "loop.example/g01204/laws.FnExactFuseStates", spec := "fnExactFuseStates", inPlace := ["math.sqrt"], apart := false, narrowed := true }
def FnExactFuseStatesUptoSaid : Prop := fnExactFuseStatesUptoRow.holds Try.pinned (OpenSpec.upto fnExactFuseStatesSpec)

/-- 'laws.FnSeen', WHERE WHAT IT READS IS OF BULK AT MOST 1048576: true; the input reads as it did. -/
def fnSeenUptoRow : OpenClaim := { program := "ytkbdbimeiadcjaa", sum := "2ce4816bbaeb79e9d3aeecaab275e099dcb8a470a4940cf1b8e5cd8ae70597f5", func := "loop.example/g01204/laws.FnSeen", spec := "fnSeen", inPlace := ["math.sqrt", "math.Float64frombits", "math.Float64bits", "math.RoundToEven"], apart := false, narrowed := true }
def FnSeenUptoSaid : Prop := fnSeenUptoRow.holds Try.pinned (OpenSpec.upto fnSeenSpec)

/-- 'laws.FnRooted', WHERE WHAT IT READS IS OF BULK AT MOST 1048576: true; the input reads as it did. -/
def fnRootedUptoRow : OpenClaim := { program := "ytkbdbimeiadcjaa", sum := "2ce4816bbaeb79e9d3aeecaab275e099dcb8a470a4940cf1b8e5cd8ae70597f5", func := "loop.example/g01204/laws.FnRooted", spec := "fnRooted", inPlace := ["math.sqrt", "math.Float32bits"], apart := false, narrowed := true }
def FnRootedUptoSaid : Prop := fnRootedUptoRow.holds Try.pinned (OpenSpec.upto fnRootedSpec)

/-- 'laws.FnLearnt', WHERE WHAT IT READS IS OF BULK AT MOST 1048576: true; the input reads as it did. -/
def fnLearntUptoRow : OpenClaim := { program := "ytkbdbimeiadcjaa", sum := "2ce4816bbaeb79e9d3aeecaab275e099dcb8a470a4940cf1b8e5cd8ae70597f5", func := "loop.example/g01204/laws.FnLearnt", spec := "fnLearnt", inPlace := ["math.Float64frombits", "math.Float32frombits", "math.sqrt", "math.Float32bits"], unfollowed := true, recurses := true, apart := false, narrowed := true }
def FnLearntUptoSaid : Prop := fnLearntUptoRow.holds Try.pinned (OpenSpec.upto fnLearntSpec)

end Rows
end Go.Proofs.Ytkbdbimeiadcjaa
