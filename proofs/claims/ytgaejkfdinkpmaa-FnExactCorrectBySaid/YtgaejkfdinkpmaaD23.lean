/-
  The contract of function 23, over lists (its run over symbolic arguments, written out).
-/
import Derived.Test.YtgaejkfdinkpmaaSm74
set_option maxRecDepth 100000
namespace Go.Proofs.Ytgaejkfdinkpmaa
open Go.Sx
noncomputable def hn23 (r : Nat) : Option Hint :=
  match r with
  | 4 => some ⟨5, [0, 1, 3, 7, 15, 23, 11, 19, 27, 5, 9, 17, 25, 13, 21, 29, 2, 4, 8, 16, 24, 12, 20, 28, 6, 10, 18, 26, 14, 22], [12], [⟨false, 3, 0⟩], [.reg 0], [.reg 2, .reg 21, .reg 22, .reg 23, .reg 25, .reg 26, .reg 27], 5, 0, 1, 0, 0⟩
  | _ => none
noncomputable def S23d0 : List (Nat × D) := [q1 2 62 0, (3, ⟨15, [.reg 2, .lit 2]⟩), (5, ⟨15, [.lit 32, .reg 2]⟩), (7, ⟨38, [.reg 3, .lit 1, .lit 0]⟩), q1 9 62 1, q2 10 14 2 9, (12, ⟨70, [.lit 4, .lit 0, .lit 0, .reg 0]⟩), q2 13 15 12 2, (14, ⟨38, [.reg 13, .lit 1, .lit 0]⟩), (15, ⟨70, [.lit 4, .lit 0, .lit 0, .reg 1]⟩), q2 16 15 15 9, (17, ⟨38, [.reg 16, .lit 1, .lit 0]⟩), (18, ⟨70, [.lit 5, .lit 0, .lit 1, .reg 0]⟩), q2 21 15 18 2]
noncomputable def S23v0 : SV := .w (.one (.bool (.lit 0)))
noncomputable def S23v1 : SV := .w (.one (.bool (.lit 1)))
noncomputable def S23 : Sm := ⟨S23d0, .node 7 (.leaf S23v0) (.node 5 (.leaf S23v0) (.node 10 (.node 14 (.leaf S23v0) (.node 17 (.leaf S23v0) (.node 21 (.leaf S23v0) (.leaf S23v1)))) (.leaf S23v0)))⟩
noncomputable def pat23 : List SV := [.w (.agg [.ls 0 [8] (.reg 0), .ls 1 [8] (.reg 1)])]
theorem sm23 : smRunL (ctx summ74) hn23 Try.f23 2 pat23 S23 = true := by kernel_rfl
end Go.Proofs.Ytgaejkfdinkpmaa
