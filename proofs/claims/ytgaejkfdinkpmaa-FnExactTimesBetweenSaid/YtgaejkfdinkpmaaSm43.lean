/-
  The contract of function 43, which marks a list.
-/
import Derived.Test.YtgaejkfdinkpmaaSm42
import Derived.Test.YtgaejkfdinkpmaaSxO
set_option maxRecDepth 100000
namespace Go.Proofs.Ytgaejkfdinkpmaa
open Go.Sx
noncomputable def hn43 (r : Nat) : Option Hint :=
  match r with
  | 2 => some ⟨2, [0, 1, 5, 4], [0], [⟨false, 1, 0⟩, ⟨false, 5, 0⟩, ⟨true, 0, 0⟩], [.reg 0], [.reg 6, .reg 7, .reg 9, .reg 10, .reg 8], 0, 1, 0, 0, 0, [], [], [], 0⟩
  | _ => none
theorem mr43 : markRun (ctx summ42) hn43 Try.f43 [3] 2 2 = true := by kernel_rfl
theorem mp43 : progs[2]? = some markP64 := by kernel_rfl
theorem mfn43 (idH : Nat) (law : MarkLaw 2 idH) : MFnOK Try.prog 43 (markS 2 [3] 2) := markS_ok (ctx_fits _) summ42_ok Try.func43 (by kernel_rfl) mr43 law
end Go.Proofs.Ytgaejkfdinkpmaa
