/-
  Function 153 keeps the contract of function 147.
-/
import Derived.Test.YtgaejkfdinkpmaaSm147
set_option maxRecDepth 100000
namespace Go.Proofs.Ytgaejkfdinkpmaa
open Go.Sx
theorem eq153 : eqRun (ctx summ147) Try.f153 ks147 S147 = true := by kernel_rfl
theorem sum153 : SummOK Try.prog 153 (oneS (smS S147 ks147)) := oneS_ok (eqS_ok (ctx_fits _) summ147_ok Try.func153 (by kernel_rfl) eq153)
noncomputable def summ153 (f : Nat) : Option Summ := match Nat.beq f 153 with
  | true => some (oneS (smS S147 ks147))
  | false => summ147 f
theorem summ153_ok : ∀ f s, summ153 f = some s → SummOK Try.prog f s := by
  intro f s h
  unfold summ153 at h
  split at h
  · rename_i e
    have e := Nat.eq_of_beq_eq_true e
    subst e
    cases h
    exact sum153
  · exact summ147_ok f s h
end Go.Proofs.Ytgaejkfdinkpmaa
