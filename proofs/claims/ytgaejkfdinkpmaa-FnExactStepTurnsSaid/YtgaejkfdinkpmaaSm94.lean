/-
  Function 94 keeps the contract of function 93.
-/
import Derived.Test.YtgaejkfdinkpmaaSm93
set_option maxRecDepth 100000
namespace Go.Proofs.Ytgaejkfdinkpmaa
open Go.Sx
theorem eq94 : eqRun (ctx summ93) Try.f94 ks93 S93 = true := by kernel_rfl
theorem sum94 : SummOK Try.prog 94 (smS S93 ks93) := eqS_ok (ctx_fits _) summ93_ok Try.func94 (by kernel_rfl) eq94
noncomputable def summ94 (f : Nat) : Option Summ := match Nat.beq f 94 with
  | true => some (smS S93 ks93)
  | false => summ93 f
theorem summ94_ok : ∀ f s, summ94 f = some s → SummOK Try.prog f s := by
  intro f s h
  unfold summ94 at h
  split at h
  · rename_i e
    have e := Nat.eq_of_beq_eq_true e
    subst e
    cases h
    exact sum94
  · exact summ93_ok f s h
end Go.Proofs.Ytgaejkfdinkpmaa
