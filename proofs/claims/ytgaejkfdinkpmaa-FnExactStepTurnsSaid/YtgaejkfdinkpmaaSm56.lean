/-
  The contract of function 56, over lists (its run over symbolic arguments, written out).
-/
import Derived.Test.YtgaejkfdinkpmaaSm51
set_option maxRecDepth 100000
namespace Go.Proofs.Ytgaejkfdinkpmaa
open Go.Sx
noncomputable def hn56 (r : Nat) : Option Hint :=
  match r with
  | 4 => some ⟨1, [0, 1, 7, 5, 9, 4, 8, 6, 10], [], [⟨false, 5, 0⟩], [.reg 0], [.reg 1, .reg 4, .reg 11], 0, 0, 0, false⟩
  | _ => none
noncomputable def S56v0 : SV := .w (.one (.bool (.lit 1)))
noncomputable def S56 : Sm := ⟨[], .leaf S56v0⟩
noncomputable def pat56 : List SV := [.w (.one (.ls 0 [8, 8, 8] (.reg 0))), .w (.one (.ls 1 [8, 8, 8] (.reg 0)))]
theorem sm56 : smRunL (ctx summ51) hn56 Try.f56 1 pat56 S56 = true := by kernel_rfl
theorem sum56 : SummOK Try.prog 56 (smL S56 1 pat56) := smL_ok (ctx_fits _) summ51_ok Try.func56 (by kernel_rfl) sm56
noncomputable def summ56 (f : Nat) : Option Summ := match Nat.beq f 56 with
  | true => some (smL S56 1 pat56)
  | false => summ51 f
theorem summ56_ok : ∀ f s, summ56 f = some s → SummOK Try.prog f s := by
  intro f s h
  unfold summ56 at h
  split at h
  · rename_i e
    have e := Nat.eq_of_beq_eq_true e
    subst e
    cases h
    exact sum56
  · exact summ51_ok f s h
end Go.Proofs.Ytgaejkfdinkpmaa
