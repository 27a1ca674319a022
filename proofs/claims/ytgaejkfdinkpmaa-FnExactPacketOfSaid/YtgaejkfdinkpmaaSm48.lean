/-
  The contract of function 48, which marks a list.
-/
import Derived.Test.YtgaejkfdinkpmaaSm37
import Derived.Test.YtgaejkfdinkpmaaSxO
set_option maxRecDepth 100000
namespace Go.Proofs.Ytgaejkfdinkpmaa
open Go.Sx
noncomputable def hn48 (r : Nat) : Option Hint :=
  match r with
  | 2 => some ⟨6, [0, 1, 5, 4], [0], [⟨false, 1, 0⟩, ⟨false, 5, 0⟩, ⟨true, 0, 0⟩], [.reg 0], [.reg 6, .reg 7, .reg 10, .reg 11, .reg 8, .reg 9], 0, 1, 0, 0, 0, [], [], [], 0⟩
  | _ => none
theorem mr48 : markRun (ctx summ37) hn48 Try.f48 [4] 5 6 = true := by kernel_rfl
theorem mp48 : progs[6]? = some markP8 := by kernel_rfl
theorem mfn48 (idH : Nat) (law : MarkLaw 6 idH) : MFnOK Try.prog 48 (markS 6 [4] 5) := markS_ok (ctx_fits _) summ37_ok Try.func48 (by kernel_rfl) mr48 law
end Go.Proofs.Ytgaejkfdinkpmaa
