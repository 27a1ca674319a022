/-
  The contract of function 75, over lists (its run over symbolic arguments, written out).
-/
import Derived.Test.YtgaejkfdinkpmaaSm23
set_option maxRecDepth 100000
namespace Go.Proofs.Ytgaejkfdinkpmaa
open Go.Sx
noncomputable def hn75 (r : Nat) : Option Hint :=
  match r with
  | 4 => some ⟨1, [0, 1, 7, 5, 9, 4, 8, 6, 10], [], [⟨false, 5, 0⟩], [.reg 0], [.reg 1, .reg 4, .reg 7], 0, 0, 0, 0, 0⟩
  | _ => none
noncomputable def S75v0 : SV := .w (.one (.bool (.lit 1)))
noncomputable def S75 : Sm := ⟨[], .leaf S75v0⟩
noncomputable def pat75 : List SV := [.w (.one (.ls 0 [8] (.reg 0))), .w (.one (.ls 1 [8] (.reg 0)))]
theorem sm75 : smRunL (ctx summ23) hn75 Try.f75 1 pat75 S75 = true := by kernel_rfl
theorem sum75 : SummOK Try.prog 75 (smL S75 1 pat75) := smL_ok (ctx_fits _) summ23_ok Try.func75 (by kernel_rfl) sm75
noncomputable def summ75 (f : Nat) : Option Summ := match Nat.beq f 75 with
  | true => some (smL S75 1 pat75)
  | false => summ23 f
theorem summ75_ok : ∀ f s, summ75 f = some s → SummOK Try.prog f s := by
  intro f s h
  unfold summ75 at h
  split at h
  · rename_i e
    have e := Nat.eq_of_beq_eq_true e
    subst e
    cases h
    exact sum75
  · exact summ23_ok f s h
end Go.Proofs.Ytgaejkfdinkpmaa
