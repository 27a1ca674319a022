/-
  No cell of these rows narrows 'for every input' (looked for: loops, veiled, ifaces, maps, wideKeys, modest, calm, conditions, laid).
  DERIVED. THE GIVEN ROWS OF THIS SEAT. 6 by the template 'for every input the law returns true; each argument reads behind the call as it read before'; 0 by the template 'total and deterministic' (their statements: YtlmeifacpedihaaTotals.lean).
  GIVEN WITH THE SEED: the statements are not yours to turn. If you find one false, say at which input.
  Laid BY PROGRAM, IN A SANDBOX (cutbox-rows.mjs): the forced cells as the released guide's own fill.sh prints them over the translation 99f86c00b7e0a19a… (all of the seat's roots in one cut). By AI agents, Wed Nov 11 2026. No macro, syntax, notation, axiom, sorry.
-/
import Derived.Test.YtlmeifacpedihaaChecked
import GoSem.Claim
import GoSem.ClaimJoined
import GoSem.ClaimMapViews
import Derived.JoinedTies
import Derived.KernelRfl
namespace Go.Proofs.Ytlmeifacpedihaa
/- THE CELL 'sum', in the pinned program and in every row, IS THE sha256 OF THE DUMP (.gsa) THAT YtlmeifacpedihaaProg.lean LOADS. Nothing in Lean hashes anything: it is a label: what it is worth is what the hold of that sum in a sandbox is worth. -/
noncomputable def Try.pinned : Pinned := { name := "ytlmeifacpedihaa", sum := "99f86c00b7e0a19ab96beba16036034aabc460afe17c290b5a19f501a16c0b27", checked := Try.checked }
namespace Rows
def none {H : Type} : Left H := { results := [], args := [] }

/-- 'laws.FnExactIsSaturated': WHATEVER THE INPUT: true; the input reads as it did. -/
def fnExactIsSaturatedSpec : ChangeSpec := { name := "fnExactIsSaturated", fn := fun _ => fun
  | [d] => { results := [.lit (.bool true)], args := [d] }
  | _ => none }
def fnExactIsSaturatedRow : OpenClaim := { program := "ytlmeifacpedihaa", sum := "99f86c00b7e0a19ab96beba16036034aabc460afe17c290b5a19f501a16c0b27", func := "loop.example/g01204/laws.FnExactIsSaturated", spec := "fnExactIsSaturated", apart := false }
def FnExactIsSaturatedSaid : Prop := fnExactIsSaturatedRow.holds Try.pinned (OpenSpec.ofChange fnExactIsSaturatedSpec)

/-- ITS FALSE NEIGHBOUR: 'it returns false'. Refute it at one input. -/
def fnExactIsSaturatedWrong : ChangeSpec := { name := "fnExactIsSaturated", fn := fun _ => fun
  | [d] => { results := [.lit (.bool false)], args := [d] }
  | _ => none }
def FnExactIsSaturatedWrongFalsely : Prop := fnExactIsSaturatedRow.holds Try.pinned (OpenSpec.ofChange fnExactIsSaturatedWrong)

/-- 'laws.FnExactValidClue': WHATEVER THE INPUT: true; the input reads as it did. -/
def fnExactValidClueSpec : ChangeSpec := { name := "fnExactValidClue", fn := fun _ => fun
  | [d] => { results := [.lit (.bool true)], args := [d] }
  | _ => none }
def fnExactValidClueRow : OpenClaim := { program := "ytlmeifacpedihaa", sum := "99f86c00b7e0a19ab96beba16036034aabc460afe17c290b5a19f501a16c0b27", func := "loop.example/g01204/laws.FnExactValidClue", spec := "fnExactValidClue", apart := false }
def FnExactValidClueSaid : Prop := fnExactValidClueRow.holds Try.pinned (OpenSpec.ofChange fnExactValidClueSpec)

/-- ITS FALSE NEIGHBOUR: 'it returns false'. Refute it at one input. -/
def fnExactValidClueWrong : ChangeSpec := { name := "fnExactValidClue", fn := fun _ => fun
  | [d] => { results := [.lit (.bool false)], args := [d] }
  | _ => none }
def FnExactValidClueWrongFalsely : Prop := fnExactValidClueRow.holds Try.pinned (OpenSpec.ofChange fnExactValidClueWrong)

/-- 'laws.FnExactVelocityOf': WHATEVER THE INPUT: true; the input reads as it did. -/
def fnExactVelocityOfSpec : ChangeSpec := { name := "fnExactVelocityOf", fn := fun _ => fun
  | [d] => { results := [.lit (.bool true)], args := [d] }
  | _ => none }
def fnExactVelocityOfRow : OpenClaim := { program := "ytlmeifacpedihaa", sum := "99f86c00b7e0a19ab96beba16036034aabc460afe17c290b5a19f501a16c0b27", func := "loop.example/g01204/laws.FnExactVelocityOf", spec := "fnExactVelocityOf", apart := false }
def FnExactVelocityOfSaid : Prop := fnExactVelocityOfRow.holds Try.pinned (OpenSpec.ofChange fnExactVelocityOfSpec)

/-- ITS FALSE NEIGHBOUR: 'it returns false'. Refute it at one input. -/
def fnExactVelocityOfWrong : ChangeSpec := { name := "fnExactVelocityOf", fn := fun _ => fun
  | [d] => { results := [.lit (.bool false)], args := [d] }
  | _ => none }
def FnExactVelocityOfWrongFalsely : Prop := fnExactVelocityOfRow.holds Try.pinned (OpenSpec.ofChange fnExactVelocityOfWrong)

/-- 'laws.FnExactPositionOf': WHATEVER THE INPUT: true; the input reads as it did. -/
def fnExactPositionOfSpec : ChangeSpec := { name := "fnExactPositionOf", fn := fun _ => fun
  | [d] => { results := [.lit (.bool true)], args := [d] }
  | _ => none }
def fnExactPositionOfRow : OpenClaim := { program := "ytlmeifacpedihaa", sum := "99f86c00b7e0a19ab96beba16036034aabc460afe17c290b5a19f501a16c0b27", func := "loop.example/g01204/laws.FnExactPositionOf", spec := "fnExactPositionOf", apart := false }
def FnExactPositionOfSaid : Prop := fnExactPositionOfRow.holds Try.pinned (OpenSpec.ofChange fnExactPositionOfSpec)

/-- ITS FALSE NEIGHBOUR: 'it returns false'. Refute it at one input. -/
def fnExactPositionOfWrong : ChangeSpec := { name := "fnExactPositionOf", fn := fun _ => fun
  | [d] => { results := [.lit (.bool false)], args := [d] }
  | _ => none }
def FnExactPositionOfWrongFalsely : Prop := fnExactPositionOfRow.holds Try.pinned (OpenSpec.ofChange fnExactPositionOfWrong)

/-- 'laws.FnExactShakeCounts': WHATEVER THE INPUT: true; the input reads as it did. -/
def fnExactShakeCountsSpec : ChangeSpec := { name := "fnExactShakeCounts", fn := fun _ => fun
  | [d1, d2, d3] => { results := [.lit (.bool true)], args := [d1, d2, d3] }
  | _ => none }
def fnExactShakeCountsRow : OpenClaim := { program := "ytlmeifacpedihaa", sum := "99f86c00b7e0a19ab96beba16036034aabc460afe17c290b5a19f501a16c0b27", func := "loop.example/g01204/laws.FnExactShakeCounts", spec := "fnExactShakeCounts", apart := false }
def FnExactShakeCountsSaid : Prop := fnExactShakeCountsRow.holds Try.pinned (OpenSpec.ofChange fnExactShakeCountsSpec)

/-- ITS FALSE NEIGHBOUR: 'it returns false'. Refute it at one input. -/
def fnExactShakeCountsWrong : ChangeSpec := { name := "fnExactShakeCounts", fn := fun _ => fun
  | [d1, d2, d3] => { results := [.lit (.bool false)], args := [d1, d2, d3] }
  | _ => none }
def FnExactShakeCountsWrongFalsely : Prop := fnExactShakeCountsRow.holds Try.pinned (OpenSpec.ofChange fnExactShakeCountsWrong)

/-- 'laws.FnExactToCount': WHATEVER THE INPUT: true; the input reads as it did. -/
def fnExactToCountSpec : ChangeSpec := { name := "fnExactToCount", fn := fun _ => fun
  | [d] => { results := [.lit (.bool true)], args := [d] }
  | _ => none }
def fnExactToCountRow : OpenClaim := { program := "ytlmeifacpedihaa", sum := "99f86c00b7e0a19ab96beba16036034aabc460afe17c290b5a19f501a16c0b27", func := "loop.example/g01204/laws.FnExactToCount", spec := "fnExactToCount", inPlace := ["math.RoundToEven"], apart := false }
def FnExactToCountSaid : Prop := fnExactToCountRow.holds Try.pinned (OpenSpec.ofChange fnExactToCountSpec)

/-- ITS FALSE NEIGHBOUR: 'it returns false'. Refute it at one input. -/
def fnExactToCountWrong : ChangeSpec := { name := "fnExactToCount", fn := fun _ => fun
  | [d] => { results := [.lit (.bool false)], args := [d] }
  | _ => none }
def FnExactToCountWrongFalsely : Prop := fnExactToCountRow.holds Try.pinned (OpenSpec.ofChange fnExactToCountWrong)

/- THE SECOND FORM. 'bulk': how many values and letters a reading holds, each counted each time it is reached (what is shared counts as often as it is met; a slice's spare places count too). A statement '..UptoSaid' is the law's where the arguments, and the package variables that the reading takes, are together of bulk at most 1048576: NARROWER than '..Said'. Prove '..Said' where nothing that the law and all that it calls make is longer than what came in: it says more and counts as full. Else prove '..UptoSaid'. A law counts once. -/
mutual
def uptoBulk {H : Type} : DataW H → Nat
  | .lit (.string bytes) => bytes.length + 1
  | .lit _ => 1
  | .nil => 1
  | .ptr d => uptoBulk d + 1
  | .slice elems spare => uptoBulkAll elems + uptoBulkAll spare + 1
  | .agg parts => uptoBulkAll parts + 1
  | .iface _ d => uptoBulk d + 1
  | .map entries => uptoBulkEntries entries + 1
  | .held _ => 1
def uptoBulkAll {H : Type} : List (DataW H) → Nat
  | [] => 0
  | d :: r => uptoBulk d + uptoBulkAll r
def uptoBulkEntries {H : Type} : List (Lit × DataW H) → Nat
  | [] => 0
  | x :: r => uptoBulkEntry x + uptoBulkEntries r
def uptoBulkEntry {H : Type} : Lit × DataW H → Nat
  | (.string bytes, d) => bytes.length + uptoBulk d + 1
  | (_, d) => uptoBulk d + 1
 end
def uptoSmall : (H : Type) → List (DataW H) → Bool := fun _ ds => decide (uptoBulkAll ds ≤ 1048576)
def OpenSpec.upto (s : _root_.Go.ChangeSpec) : _root_.Go.OpenSpec := { _root_.Go.OpenSpec.ofChange s with cond := some uptoSmall }

/-- 'laws.FnExactIsSaturated', WHERE WHAT IT READS IS OF BULK AT MOST 1048576: true; the input reads as it did. -/
def fnExactIsSaturatedUptoRow : OpenClaim := { program := "ytlmeifacpedihaa", sum := "99f86c00b7e0a19ab96beba16036034aabc460afe17c290b5a19f501a16c0b27", func := "loop.example/g01204/laws.FnExactIsSaturated", spec := "fnExactIsSaturated", apart := false, narrowed := true }
def FnExactIsSaturatedUptoSaid : Prop := fnExactIsSaturatedUptoRow.holds Try.pinned (OpenSpec.upto fnExactIsSaturatedSpec)

/-- 'laws.FnExactValidClue', WHERE WHAT IT READS IS OF BULK AT MOST 1048576: true; the input reads as it did. -/
def fnExactValidClueUptoRow : OpenClaim := { program := "ytlmeifacpedihaa", sum := "99f86c00b7e0a19ab96beba16036034aabc460afe17c290b5a19f501a16c0b27", func := "loop.example/g01204/laws.FnExactValidClue", spec := "fnExactValidClue", apart := false, narrowed := true }
def FnExactValidClueUptoSaid : Prop := fnExactValidClueUptoRow.holds Try.pinned (OpenSpec.upto fnExactValidClueSpec)

/-- 'laws.FnExactVelocityOf', WHERE WHAT IT READS IS OF BULK AT MOST 1048576: true; the input reads as it did. -/
def fnExactVelocityOfUptoRow : OpenClaim := { program := "ytlmeifacpedihaa", sum := "99f86c00b7e0a19ab96beba16036034aabc460afe17c290b5a19f501a16c0b27", func := "loop.example/g01204/laws.FnExactVelocityOf", spec := "fnExactVelocityOf", apart := false, narrowed := true }
def FnExactVelocityOfUptoSaid : Prop := fnExactVelocityOfUptoRow.holds Try.pinned (OpenSpec.upto fnExactVelocityOfSpec)

/-- 'laws.FnExactPositionOf', WHERE WHAT IT READS IS OF BULK AT MOST 1048576: true; the input reads as it did. -/
def fnExactPositionOfUptoRow : OpenClaim := { program := "ytlmeifacpedihaa", sum := "99f86c00b7e0a19ab96beba16036034aabc460afe17c290b5a19f501a16c0b27", func := "loop.example/g01204/laws.FnExactPositionOf", spec := "fnExactPositionOf", apart := false, narrowed := true }
def FnExactPositionOfUptoSaid : Prop := fnExactPositionOfUptoRow.holds Try.pinned (OpenSpec.upto fnExactPositionOfSpec)

/-- 'laws.FnExactShakeCounts', WHERE WHAT IT READS IS OF BULK AT MOST 1048576: true; the input reads as it did. -/
def fnExactShakeCountsUptoRow : OpenClaim := { program := "ytlmeifacpedihaa", sum := "99f86c00b7e0a19ab96beba16036034aabc460afe17c290b5a19f501a16c0b27", func := "loop.example/g01204/laws.FnExactShakeCounts", spec := "fnExactShakeCounts", apart := false, narrowed := true }
def FnExactShakeCountsUptoSaid : Prop := fnExactShakeCountsUptoRow.holds Try.pinned (OpenSpec.upto fnExactShakeCountsSpec)

/-- 'laws.FnExactToCount', WHERE WHAT IT READS IS OF BULK AT MOST 1048576: true; the input reads as it did. -/
def fnExactToCountUptoRow : OpenClaim := { program := "ytlmeifacpedihaa", sum := "99f86c00b7e0a19ab96beba16036034aabc460afe17c290b5a19f501a16c0b27", func := "loop.example/g01204/laws.FnExactToCount", spec := "fnExactToCount", inPlace := ["math.RoundToEven"], apart := false, narrowed := true }
def FnExactToCountUptoSaid : Prop := fnExactToCountUptoRow.holds Try.pinned (OpenSpec.upto fnExactToCountSpec)

end Rows
end Go.Proofs.Ytlmeifacpedihaa
