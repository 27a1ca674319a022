/-
  The contract of function 42, over lists (its run over symbolic arguments, written out).
-/
import Derived.Test.YtgaejkfdinkpmaaSm41
set_option maxRecDepth 100000
namespace Go.Proofs.Ytgaejkfdinkpmaa
open Go.Sx
noncomputable def hn42 (r : Nat) : Option Hint :=
  match r with
  | 4 => some ⟨1, [0, 1, 7, 5, 9, 4, 8, 6, 10], [], [⟨false, 5, 0⟩], [.reg 0], [.reg 1, .reg 4, .reg 6], 0, 0, 0, 0, 0, [], [], [], 0⟩
  | _ => none
noncomputable def S42v0 : SV := .w (.one (.bool (.lit 1)))
noncomputable def S42 : Sm := ⟨[], .leaf S42v0⟩
noncomputable def pat42 : List SV := [.w (.one (.ls 0 [3] (.reg 0))), .w (.one (.ls 1 [3] (.reg 0)))]
theorem sm42 : smRunL (ctx summ) hn42 Try.f42 1 pat42 S42 = true := by kernel_rfl
theorem sum42 : SummOK Try.prog 42 (smL S42 1 pat42) := smL_ok (ctx_fits _) summ_ok Try.func42 (by kernel_rfl) sm42
noncomputable def summ42 (f : Nat) : Option Summ := match Nat.beq f 42 with
  | true => some (smL S42 1 pat42)
  | false => summ f
theorem summ42_ok : ∀ f s, summ42 f = some s → SummOK Try.prog f s := by
  intro f s h
  unfold summ42 at h
  split at h
  · rename_i e
    have e := Nat.eq_of_beq_eq_true e
    subst e
    cases h
    exact sum42
  · exact summ_ok f s h
end Go.Proofs.Ytgaejkfdinkpmaa
