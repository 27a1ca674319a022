/-
  The contracts of functions without a Go body.
-/
import Derived.Test.YthfkcbegloccoaaCtx
namespace Go.Proofs.Ythfkcbegloccoaa
open Go.Sx
noncomputable def summ (f : Nat) : Option Summ :=
  match Nat.beq f 163 with
  | true => some sqrtS
  | false =>
  none
theorem sum163 : SummOK Try.prog 163 sqrtS := sqrtS_ok Try.func163 (by kernel_rfl) (by kernel_rfl) (by kernel_rfl) (by kernel_rfl)
theorem summ_ok : ∀ f s, summ f = some s → SummOK Try.prog f s := by
  intro f s h
  unfold summ at h
  split at h
  · rename_i e
    have e := Nat.eq_of_beq_eq_true e
    subst e
    cases h
    exact sum163
  · cases h
end Go.Proofs.Ythfkcbegloccoaa
