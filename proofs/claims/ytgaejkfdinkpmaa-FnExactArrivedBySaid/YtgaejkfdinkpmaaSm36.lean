/-
  The contract of function 36, which marks a list.
-/
import Derived.Test.YtgaejkfdinkpmaaSm19
import Derived.Test.YtgaejkfdinkpmaaSxO
set_option maxRecDepth 100000
namespace Go.Proofs.Ytgaejkfdinkpmaa
open Go.Sx
noncomputable def hn36 (r : Nat) : Option Hint :=
  match r with
  | 2 => some ⟨5, [0, 1, 5, 4], [0], [⟨false, 1, 0⟩, ⟨false, 5, 0⟩, ⟨true, 0, 0⟩], [.reg 0], [.reg 6, .reg 7, .reg 9, .reg 12, .reg 15, .reg 18, .reg 19, .reg 8, .reg 10, .reg 11, .reg 13, .reg 14, .reg 16, .reg 17], 0, 1, 0, 0, 0, [], [], [], 0⟩
  | _ => none
theorem mr36 : markRun (ctx summ19) hn36 Try.f36 [3, 1, 1, 1] 110 5 = true := by kernel_rfl
theorem mp36 : progs[5]? = some markPR := by kernel_rfl
theorem mfn36 (idH : Nat) (law : MarkLaw 5 idH) : MFnOK Try.prog 36 (markS 5 [3, 1, 1, 1] 110) := markS_ok (ctx_fits _) summ19_ok Try.func36 (by kernel_rfl) mr36 law
end Go.Proofs.Ytgaejkfdinkpmaa
